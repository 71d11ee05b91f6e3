/- The plain statement of the law FnVerdicts: the program's verdict on a table is proved by both, has a name, and says bad if and only if the table is not valid. No condition. -/
import Derived.Test.YtimdefbpoddoaaaGreatPFnVerdictsx
import Derived.Test.YtimdefbpoddoaaaGreatU
import Derived.Test.YtimdefbpoddoaaaGreatSaysFnVerdicts
namespace Go.Proofs.YtimdefbpoddoaaaGreat.Pure
open Go.RowKit Go.Proofs.YtimdefbpoddoaaaGreat.PFnVerdicts Go.Proofs.YtimdefbpoddoaaaGreatW.PrintWords Go.Proofs.YtimdefbpoddoaaaGreatW.PrintLast Go.Proofs.YtimdefbpoddoaaaGreatW.PrintMore Go.Proofs.YtimdefbpoddoaaaGreat.U
set_option linter.unusedVariables false
set_option linter.unusedSimpArgs false

theorem big_f (b : List Int) : laws_big.f b = some (decide ((b.length : Int) > 1048576)) := rfl

def CurOk (b : List Int) (i : Int) : Prop := 0 ≤ i ∧ i ≤ (b.length : Int) ∧ b.length ≤ 140737488351232
theorem l01New_l0 (b : List Int) (hb : b.length ≤ 140737488351232) : ∀ (d : Nat) (i h : Int), 0 ≤ i → i ≤ (b.length : Int) → (b.length : Int) - i = d → ∃ h', Ev (fun k => spec_l01New.l0 k b h i) (b, 0, h')
 | 0, i, h, h0, h1, hd => ⟨h, by
  refine Ev.suc ?_
  simp only [spec_l01New.l0]
  exact Ev.ite_neg (by omega) (Ev.now _)⟩
 | d + 1, i, h, h0, h1, hd => by
  by_cases h4 : i < 4000
  ·obtain ⟨h', hh⟩ := l01New_l0 b hb d (i + 1) (Go.bits .and .i64 (wrap64 ((wrap64 ((wrap64 (h * 131)) + (wrap64 (rd b i)))) + 7)) 1073741823) (by omega) (by omega) (by omega)
   refine ⟨h', ?_⟩
   refine Ev.suc ?_
   simp only [spec_l01New.l0]
   refine Ev.ite_pos (by omega) (Ev.ite_pos h4 (Ev.ite_pos h0 ?_))
   rw [w64 (x := i + 1) (by omega) (by omega)]
   exact hh
  ·refine ⟨h, ?_⟩
   refine Ev.suc ?_
   simp only [spec_l01New.l0]
   exact Ev.ite_pos (by omega) (Ev.ite_neg h4 (Ev.now _))
theorem l01New_f (b : List Int) (hb : b.length ≤ 140737488351232) : ∃ h', Ev (fun k => spec_l01New.f k b) (b, 0, h') := l01New_l0 b hb b.length 0 _ (by omega) (by omega) (by omega)
theorem l01New_ok (b : List Int) (hb : b.length ≤ 140737488351232) : CurOk b 0 := ⟨by omega, by omega, hb⟩
theorem l01Byte_f (b : List Int) (i h : Int) (hc : CurOk b i) : ∃ r i' h', spec_l01Byte.f b i h = some (r, i', h') ∧ 0 ≤ r ∧ r ≤ 255 ∧ CurOk b i' := by
 obtain ⟨h0, h1, h2⟩ := hc
 unfold spec_l01Byte.f
 by_cases hl : i < (b.length : Int)
 ·rw [if_pos hl, if_pos h0]
  refine ⟨_, _, _, rfl, (and255 _).1, (and255 _).2, ?_⟩
  rw [w64 (by omega) (by omega)]
  exact ⟨by omega, by omega, h2⟩
 ·rw [if_neg hl]
  exact ⟨_, _, _, rfl, (and255 _).1, (and255 _).2, h0, h1, h2⟩
theorem l01Below_f (b : List Int) (i h n : Int) (hc : CurOk b i) : ∃ r i' h', spec_l01Below.f b i h n = some (r, i', h') ∧ 0 ≤ r ∧ (0 < n → r < n) ∧ (n ≤ 0 → r = 0) ∧ CurOk b i' := by
 unfold spec_l01Below.f
 by_cases hn : n ≤ 0
 ·rw [if_pos hn]
  exact ⟨0, i, h, rfl, by omega, by omega, fun _ => rfl, hc⟩
 ·rw [if_neg hn]
  have tm : ∀ x : Int, 0 ≤ x → 0 ≤ Int.tmod x n ∧ Int.tmod x n < n := fun x hx => by
   rw [Int.tmod_eq_emod_of_nonneg hx]
   exact ⟨Int.emod_nonneg _ (by omega), Int.emod_lt_of_pos _ (by omega)⟩
  by_cases h2 : n ≤ 256
  ·obtain ⟨r, i', h', e, r0, r1, hc'⟩ := l01Byte_f b i h hc
   rw [if_pos h2, e]
   simp only [Option.bind_some]
   rw [if_neg (by omega)]
   exact ⟨_, _, _, rfl, (tm r r0).1, fun _ => (tm r r0).2, fun h => absurd h hn, hc'⟩
  ·rw [if_neg h2]
   obtain ⟨x, i1, h1, e1, x0, x1, hc1⟩ := l01Byte_f b i h hc
   obtain ⟨y, i2, h2', e2, y0, y1, hc2⟩ := l01Byte_f b i1 h1 hc1
   obtain ⟨z, i3, h3, e3, z0, z1, hc3⟩ := l01Byte_f b i2 h2' hc2
   obtain ⟨w, i4, h4, e4, w0, w1, hc4⟩ := l01Byte_f b i3 h3 hc3
   simp only [e1, e2, e3, e4, Option.bind_some]
   rw [if_neg (by omega)]
   have hs : wrap64 ((wrap64 ((wrap64 ((wrap64 (x * 16777216)) + (wrap64 (y * 65536)))) + (wrap64 (z * 256)))) + w) = x * 16777216 + y * 65536 + z * 256 + w := by
    rw [w64 (x := x * 16777216) (by omega) (by omega), w64 (x := y * 65536) (by omega) (by omega), w64 (x := z * 256) (by omega) (by omega)]
    rw [w64 (x := x * 16777216 + y * 65536) (by omega) (by omega)]
    rw [w64 (x := x * 16777216 + y * 65536 + z * 256) (by omega) (by omega)]
    exact w64 (by omega) (by omega)
   rw [hs]
   exact ⟨_, _, _, rfl, (tm _ (by omega)).1, fun _ => (tm _ (by omega)).2, fun h => absurd h hn, hc4⟩

abbrev gOk (w h : Int) : Prop := 1 ≤ w ∧ w ≤ 4 ∧ 1 ≤ h ∧ h ≤ 4
def ncR (w h : Int) : Int := if gOk w h then w * h else 0
theorem mul_b {w h : Int} (hw : 1 ≤ w ∧ w ≤ 4) (hh : 1 ≤ h ∧ h ≤ 4) : 1 ≤ w * h ∧ w * h ≤ 16 := by
 obtain h1 | h1 | h1 | h1 : w = 1 ∨ w = 2 ∨ w = 3 ∨ w = 4 := by omega
 all_goals
  subst h1
  omega
theorem ncR_b (w h : Int) : 0 ≤ ncR w h ∧ ncR w h ≤ 16 := by
 unfold ncR
 split
 ·rename_i hg
  have := mul_b ⟨hg.1, hg.2.1⟩ hg.2.2
  omega
 ·omega
abbrev nodeOk (w h n : Int) : Prop := 0 ≤ n ∧ n ≤ ncR w h - 1

theorem pick6_f (b : List Int) (i h : Int) (hc : CurOk b i) : ∃ v i' h', spec_l01PickInt.f b i h [1, 2, 2, 3, 3, 4] = some (v, i', h') ∧ (1 ≤ v ∧ v ≤ 4) ∧ CurOk b i' := by
 obtain ⟨r, i', h', e, r0, r1, _, hc'⟩ := l01Below_f b i h 6 hc
 have r2 := r1 (by omega)
 refine ⟨rd [1, 2, 2, 3, 3, 4] r, i', h', ?_, ?_, hc'⟩
 ·unfold spec_l01PickInt.f
  have e6 : (([1, 2, 2, 3, 3, 4] : List Int).length : Int) = 6 := rfl
  rw [e6, e, Option.bind_some, if_pos r0, if_pos r2]
 ·have : r = 0 ∨ r = 1 ∨ r = 2 ∨ r = 3 ∨ r = 4 ∨ r = 5 := by omega
  rcases this with rfl | rfl | rfl | rfl | rfl | rfl <;> decide
theorem l02Grid_f (b : List Int) (i h : Int) (hc : CurOk b i) : ∃ w g i' h', spec_l02Grid.f b i h = some (w, g, i', h') ∧ gOk w g ∧ CurOk b i' := by
 obtain ⟨w, i1, h1, e1, w1, c1⟩ := pick6_f b i h hc
 obtain ⟨g, i2, h2, e2, g1, c2⟩ := pick6_f b i1 h1 c1
 refine ⟨w, g, i2, h2, ?_, ⟨w1.1, w1.2, g1.1, g1.2⟩, c2⟩
 unfold spec_l02Grid.f
 rw [e1, Option.bind_some, e2, Option.bind_some]

def portR (w rule node dst : Int) : Int :=
 if node = dst then 4 else
 if (if (if rule = 4 then 1 + dst % 2 else rule) = 2 then node / w = dst / w else if (if rule = 4 then 1 + dst % 2 else rule) = 3 then dst % w < node % w ∨ node / w = dst / w else node % w ≠ dst % w)
 then (if dst % w < node % w then 3 else 1) else (if dst / w < node / w then 0 else 2)
def stdL (w h rule : Int) (i : Nat) : List Int := (List.range i).map fun j => portR w rule ((j / (ncR w h).toNat : Nat) : Int) ((j % (ncR w h).toNat : Nat) : Int)
def stdT (w h rule : Int) : List Int := stdL w h rule ((ncR w h).toNat * (ncR w h).toNat)
theorem stdL_len (w h rule : Int) (i : Nat) : (stdL w h rule i).length = i := by
 unfold stdL
 simp
theorem stdL_snoc (w h rule : Int) (i : Nat) : stdL w h rule i ++ [portR w rule ((i / (ncR w h).toNat : Nat) : Int) ((i % (ncR w h).toNat : Nat) : Int)] = stdL w h rule (i + 1) := by
 unfold stdL
 rw [List.range_succ, List.map_append]
 rfl
theorem nn_b (w h : Int) : (ncR w h).toNat ≤ 16 := by
 have := ncR_b w h
 omega
theorem sq_b {n : Nat} (h : n ≤ 16) : n * n ≤ 256 := by
 have := Nat.mul_le_mul h h
 omega
theorem stdL_lim (w h rule : Int) {i : Nat} (h2 : i ≤ 256) : (stdL w h rule i).length < 17592186044416 := by
 have e := stdL_len w h rule i
 omega
theorem node_b {w x : Int} (hw : 1 ≤ w ∧ w ≤ 4) (hx : 0 ≤ x ∧ x ≤ 15) : Int.tmod x w = x % w ∧ Int.tdiv x w = x / w ∧ 0 ≤ x % w ∧ x % w < w ∧ 0 ≤ x / w ∧ x / w ≤ 15 := by
 rw [Int.tmod_eq_emod_of_nonneg hx.1, Int.tdiv_eq_ediv_of_nonneg hx.1]
 refine ⟨rfl, rfl, Int.emod_nonneg _ (by omega), Int.emod_lt_of_pos _ (by omega), Int.ediv_nonneg hx.1 (by omega), ?_⟩
 obtain h1 | h1 | h1 | h1 : w = 1 ∨ w = 2 ∨ w = 3 ∨ w = 4 := by omega
 all_goals
  subst h1
  omega
theorem l01In_f (a b c : Int) : spec_l01In.f a b c = some (decide (b ≤ a ∧ a ≤ c)) := by
 unfold spec_l01In.f
 by_cases h : a ≥ b
 ·rw [if_pos h]
  simp [show b ≤ a from h]
 ·rw [if_neg h]
  simp [show ¬ b ≤ a from h]

theorem GridOk_s (w h : Int) : spec_GridOk.f w h = some (decide (gOk w h)) := by
 unfold spec_GridOk.f gOk
 simp only [l01In_f, Option.bind_some, decide_eq_true_eq]
 split
 ·rename_i h1
  simp [h1]
 ·rename_i h1
  simp only [Option.some.injEq]
  symm
  rw [decide_eq_false_iff_not]
  exact fun h2 => h1 ⟨h2.1, h2.2.1⟩
theorem NodeCount_s (w h : Int) : spec_NodeCount.f w h = some (ncR w h) := by
 unfold spec_NodeCount.f ncR
 simp only [GridOk_s, Option.bind_some, decide_eq_true_eq]
 split
 ·rename_i hg
  have := mul_b ⟨hg.1, hg.2.1⟩ hg.2.2
  rw [w64 (by omega) (by omega)]
 ·rfl

theorem l05Column_s (a b : Int) : spec_l05Column.f a b = some (if b < a then 3 else 1) := by
 unfold spec_l05Column.f
 split <;> rfl
theorem l05Row_s (a b : Int) : spec_l05Row.f a b = some (if b < a then 0 else 2) := by
 unfold spec_l05Row.f
 split <;> rfl
theorem l05Port_j1 (x y u v : Int) (b : Bool) : Ev (fun k => spec_l05Port.j1 k x y u v b) (if b = true then (if u < x then 3 else 1) else (if v < y then 0 else 2)) := by
 refine Ev.suc ?_
 simp only [spec_l05Port.j1, l05Column_s, l05Row_s, Option.bind_some]
 refine Ev.ite (fun h => Ev.val ?_) (fun h => Ev.val ?_)
 ·rw [if_pos h]
 ·rw [if_neg h]
theorem l05Port_j0 (r x y u v : Int) : Ev (fun k => spec_l05Port.j0 k r x y u v) (if (if r = 2 then y = v else if r = 3 then u < x ∨ y = v else x ≠ u) then (if u < x then 3 else 1) else (if v < y then 0 else 2)) := by
 refine Ev.suc ?_
 simp only [spec_l05Port.j0]
 refine Ev.ite (fun h => ?_) (fun h => Ev.ite (fun h3 => Ev.ite (fun h4 => ?_) (fun h4 => ?_)) (fun h3 => ?_))
 ·refine Ev.eq (l05Port_j1 x y u v _) ?_
  simp [h]
 ·refine Ev.eq (l05Port_j1 x y u v _) ?_
  simp [h3, h4]
 ·refine Ev.eq (l05Port_j1 x y u v _) ?_
  simp [h3, h4]
 ·refine Ev.eq (l05Port_j1 x y u v _) ?_
  simp [h, h3]
theorem l05Port_s (w h rule node dst : Int) (hw : 1 ≤ w ∧ w ≤ 4) (hn : 0 ≤ node ∧ node ≤ 15) (ht : 0 ≤ dst ∧ dst ≤ 15) : Ev (fun k => spec_l05Port.f k w h rule node dst) (portR w rule node dst) := by
 unfold spec_l05Port.f portR
 obtain ⟨a1, a2, a3, a4, a5, a6⟩ := node_b hw hn
 obtain ⟨b1, b2, b3, b4, b5, b6⟩ := node_b hw ht
 have c2 : Int.tmod dst 2 = dst % 2 := Int.tmod_eq_emod_of_nonneg ht.1
 have e1 : wrap64 (node / w) = node / w := w64 (by omega) (by omega)
 have e2 : wrap64 (dst / w) = dst / w := w64 (by omega) (by omega)
 have e3 : wrap64 (1 + dst % 2) = 1 + dst % 2 := w64 (by omega) (by omega)
 simp only [a1, a2, b1, b2, c2, e1, e2, e3]
 refine Ev.ite_neg (by omega) (Ev.ite (fun h1 => Ev.val ?_) (fun h1 => ?_))
 ·rw [if_pos h1]
 ·rw [if_neg h1]
  refine Ev.ite (fun h4 => ?_) (fun h4 => ?_)
  ·refine Ev.eq (l05Port_j0 _ _ _ _ _) ?_
   simp [h4]
  ·refine Ev.eq (l05Port_j0 _ _ _ _ _) ?_
   simp [h4]
theorem l05Make_l0 (w h rule : Int) (hg : gOk w h) : ∀ (d i : Nat), i + d = (ncR w h).toNat * (ncR w h).toNat →
  Ev (fun k => spec_l05Make.l0 k rule (ncR w h) (i : Int) w h (stdL w h rule i)) (stdT w h rule)
 | d, i, hd => by
  have hb := ncR_b w h
  have hq := sq_b (nn_b w h)
  have hn1 : 1 ≤ ncR w h := by
   unfold ncR
   rw [if_pos hg]
   exact (mul_b ⟨hg.1, hg.2.1⟩ hg.2.2).1
  have hsq : wrap64 (ncR w h * ncR w h) = (((ncR w h).toNat * (ncR w h).toNat : Nat) : Int) := by
   have e : (((ncR w h).toNat * (ncR w h).toNat : Nat) : Int) = ncR w h * ncR w h := by
    rw [Int.natCast_mul, Int.toNat_of_nonneg hb.1]
   rw [← e]
   exact w64 (by omega) (by omega)
  refine Ev.suc ?_
  simp only [spec_l05Make.l0, hsq]
  cases d with
  | zero =>
   refine Ev.ite_neg (by omega) (Ev.val ?_)
   unfold stdT
   rw [← hd]
   rfl
  | succ d =>
   have ih := l05Make_l0 w h rule hg d (i + 1) (by omega)
   have hi : i < (ncR w h).toNat * (ncR w h).toNat := by omega
   have e1 : wrap64 (Int.tdiv (i : Int) (ncR w h)) = ((i / (ncR w h).toNat : Nat) : Int) := by
    have e : ((i / (ncR w h).toNat : Nat) : Int) = (i : Int) / ncR w h := by
     rw [Int.natCast_ediv, Int.toNat_of_nonneg hb.1]
    have hlt : i / (ncR w h).toNat < (ncR w h).toNat := Nat.div_lt_of_lt_mul hi
    rw [Int.tdiv_eq_ediv_of_nonneg (by omega), ← e]
    generalize i / (ncR w h).toNat = q at hlt ⊢
    exact w64 (by omega) (by omega)
   have e2 : Int.tmod (i : Int) (ncR w h) = ((i % (ncR w h).toNat : Nat) : Int) := by
    rw [Int.tmod_eq_emod_of_nonneg (by omega), Int.natCast_emod, Int.toNat_of_nonneg hb.1]
   have l1 : i / (ncR w h).toNat < (ncR w h).toNat := Nat.div_lt_of_lt_mul hi
   have l2 : i % (ncR w h).toNat < (ncR w h).toNat := Nat.mod_lt _ (by omega)
   have hw : wrap64 ((i : Int) + 1) = ((i + 1 : Nat) : Int) := by rw [w64 (by omega) (by omega)]; omega
   rw [← stdL_snoc] at ih
   rw [e1, e2, hw]
   generalize i / (ncR w h).toNat = q at l1 ih ⊢
   generalize i % (ncR w h).toNat = r at l2 ih ⊢
   refine Ev.ite_pos (by omega) ?_
   refine Ev.ite_neg (by omega) ?_
   refine Ev.bind (l05Port_s w h rule _ _ ⟨hg.1, hg.2.1⟩ ⟨by omega, by omega⟩ ⟨by omega, by omega⟩) ?_
   refine Ev.ite_pos (stdL_lim w h rule (Nat.le_of_lt (Nat.lt_of_lt_of_le hi hq))) ?_
   exact ih
theorem l05Make_s (w h rule : Int) (hg : gOk w h) : Ev (fun k => spec_l05Make.f k w h rule) (stdT w h rule) := by
 unfold spec_l05Make.f
 exact Ev.bindS (NodeCount_s w h) (l05Make_l0 w h rule hg _ 0 (Nat.zero_add _))

theorem l02Has_s (w h n : Int) : spec_l02Has.f w h n = some (decide (nodeOk w h n)) := by
 unfold spec_l02Has.f nodeOk
 have := ncR_b w h
 simp only [NodeCount_s, l01In_f, Option.bind_some]
 rw [w64 (by omega) (by omega)]

theorem inside_f (a b c : Int) : impl_inside.f a b c = some (decide (b ≤ a ∧ a ≤ c)) := by
 unfold impl_inside.f
 by_cases h : b ≤ a
 ·rw [if_pos h]
  simp [h]
 ·rw [if_neg h]
  simp [h]

theorem GridOk_i (w h : Int) : impl_GridOk.f w h = some (decide (gOk w h)) := by
 unfold impl_GridOk.f gOk
 simp only [inside_f, Option.bind_some, decide_eq_true_eq]
 split
 ·rename_i h1
  simp [h1]
 ·rename_i h1
  simp only [Option.some.injEq]
  symm
  rw [decide_eq_false_iff_not]
  exact fun h2 => h1 ⟨h2.1, h2.2.1⟩
theorem NodeCount_i (w h : Int) : impl_NodeCount.f w h = some (ncR w h) := by
 unfold impl_NodeCount.f ncR
 simp only [GridOk_i, Option.bind_some, decide_eq_true_eq]
 split
 ·rename_i hg
  have := mul_b ⟨hg.1, hg.2.1⟩ hg.2.2
  rw [w64 (by omega) (by omega)]
 ·rfl

theorem isNode_i (w h n : Int) : impl_isNode.f w h n = some (decide (nodeOk w h n)) := by
 unfold impl_isNode.f nodeOk
 have := ncR_b w h
 simp only [NodeCount_i, inside_f, Option.bind_some]
 rw [w64 (by omega) (by omega)]

def nodeAtR (w h x y : Int) : Int := if gOk w h ∧ (0 ≤ x ∧ x ≤ w - 1) ∧ (0 ≤ y ∧ y ≤ h - 1) then y * w + x else -1
theorem nodeAt_b (w h x y : Int) : nodeAtR w h x y = -1 ∨ nodeOk w h (nodeAtR w h x y) := by
 unfold nodeAtR
 split
 ·rename_i hc
  obtain ⟨hg, hx, hy⟩ := hc
  right
  have hn : ncR w h = w * h := if_pos hg
  rw [nodeOk, hn]
  obtain ⟨g1, g2, g3, g4⟩ := hg
  obtain h1 | h1 | h1 | h1 : w = 1 ∨ w = 2 ∨ w = 3 ∨ w = 4 := by omega
  all_goals
   subst h1
   omega
 ·exact .inl rfl
theorem NodeAt_s (w h x y : Int) : spec_NodeAt.f w h x y = some (nodeAtR w h x y) := by
 unfold spec_NodeAt.f nodeAtR
 simp only [GridOk_s, l01In_f, Option.bind_some, decide_eq_true_eq]
 by_cases hg : gOk w h
 ·have e1 : wrap64 (w - 1) = w - 1 := w64 (by have := hg.1; omega) (by have := hg.2.1; omega)
  have e2 : wrap64 (h - 1) = h - 1 := w64 (by have := hg.2.2.1; omega) (by have := hg.2.2.2; omega)
  rw [if_pos hg, e1, e2]
  by_cases hx : 0 ≤ x ∧ x ≤ w - 1
  ·by_cases hy : 0 ≤ y ∧ y ≤ h - 1
   ·rw [if_pos hx, if_pos hy, if_pos ⟨hg, hx, hy⟩]
    obtain ⟨g1, g2, g3, g4⟩ := hg
    have hm : 0 ≤ y * w ∧ y * w ≤ 12 := by
     obtain h1 | h1 | h1 | h1 : w = 1 ∨ w = 2 ∨ w = 3 ∨ w = 4 := by omega
     all_goals
      subst h1
      omega
    rw [w64 (x := y * w) (by omega) (by omega), w64 (by omega) (by omega)]
   ·rw [if_pos hx, if_neg hy, if_neg (fun hh => hy hh.2.2)]
  ·rw [if_neg hx, if_neg (fun hh => hx hh.2.1)]
 ·rw [if_neg hg, if_neg (fun hh => hg hh.1)]
theorem NodeAt_i (w h x y : Int) : impl_NodeAt.f w h x y = some (nodeAtR w h x y) := by
 have e : impl_NodeAt.f w h x y = spec_NodeAt.f w h x y := by
  unfold impl_NodeAt.f spec_NodeAt.f
  simp only [GridOk_i, GridOk_s, inside_f, l01In_f]
 rw [e, NodeAt_s]
def nextR (w h n p : Int) : Int :=
 if nodeOk w h n then
  (if p = 0 then nodeAtR w h (n % w) (n / w - 1) else if p = 1 then nodeAtR w h (n % w + 1) (n / w) else if p = 2 then nodeAtR w h (n % w) (n / w + 1) else if p = 3 then nodeAtR w h (n % w - 1) (n / w) else if p = 4 then n else -1)
 else -1
theorem nextR_b (w h n p : Int) : nextR w h n p = -1 ∨ nodeOk w h (nextR w h n p) := by
 unfold nextR
 by_cases hn : nodeOk w h n
 ·rw [if_pos hn]
  by_cases h0 : p = 0
  ·rw [if_pos h0]
   exact nodeAt_b _ _ _ _
  rw [if_neg h0]
  by_cases h1 : p = 1
  ·rw [if_pos h1]
   exact nodeAt_b _ _ _ _
  rw [if_neg h1]
  by_cases h2 : p = 2
  ·rw [if_pos h2]
   exact nodeAt_b _ _ _ _
  rw [if_neg h2]
  by_cases h3 : p = 3
  ·rw [if_pos h3]
   exact nodeAt_b _ _ _ _
  rw [if_neg h3]
  by_cases h4 : p = 4
  ·rw [if_pos h4]
   exact .inr hn
  ·rw [if_neg h4]
   exact .inl rfl
 ·rw [if_neg hn]
  exact .inl rfl
theorem nodeOk_g {w h n : Int} (hn : nodeOk w h n) : gOk w h ∧ 0 ≤ n ∧ n ≤ 15 := by
 obtain ⟨h0, h1⟩ := hn
 have hb := ncR_b w h
 by_cases hg : gOk w h
 ·exact ⟨hg, h0, by omega⟩
 ·have e : ncR w h = 0 := if_neg hg
  omega
theorem div_b {w x : Int} (hw : 1 ≤ w ∧ w ≤ 4) (hx : 0 ≤ x ∧ x ≤ 15) : Int.tmod x w = x % w ∧ Int.tdiv x w = x / w ∧ 0 ≤ x % w ∧ x % w < w ∧ 0 ≤ x / w ∧ x / w ≤ 15 := by
 rw [Int.tmod_eq_emod_of_nonneg hx.1, Int.tdiv_eq_ediv_of_nonneg hx.1]
 refine ⟨rfl, rfl, Int.emod_nonneg _ (by omega), Int.emod_lt_of_pos _ (by omega), Int.ediv_nonneg hx.1 (by omega), ?_⟩
 obtain h1 | h1 | h1 | h1 : w = 1 ∨ w = 2 ∨ w = 3 ∨ w = 4 := by omega
 all_goals
  subst h1
  omega
theorem NextNode_s (w h n p : Int) : spec_NextNode.f w h n p = some (nextR w h n p) := by
 unfold spec_NextNode.f nextR
 simp only [l02Has_s, Option.bind_some, decide_eq_true_eq]
 by_cases hn : nodeOk w h n
 ·obtain ⟨hg, h0, h15⟩ := nodeOk_g hn
  obtain ⟨a1, a2, a3, a4, a5, a6⟩ := div_b ⟨hg.1, hg.2.1⟩ ⟨h0, h15⟩
  rw [if_pos hn, if_pos hn, if_neg (by have := hg.1; omega), a1, a2]
  have hw4 := hg.2.1
  generalize n % w = x at *
  generalize n / w = y at *
  have e1 : wrap64 y = y := w64 (by omega) (by omega)
  have e2 : wrap64 (y - 1) = y - 1 := w64 (by omega) (by omega)
  have e3 : wrap64 (y + 1) = y + 1 := w64 (by omega) (by omega)
  have e4 : wrap64 (x - 1) = x - 1 := w64 (by omega) (by omega)
  have e5 : wrap64 (x + 1) = x + 1 := w64 (by omega) (by omega)
  simp only [e1, e2, e3, e4, e5, NodeAt_s, Option.bind_some]
  repeat' split
  all_goals rfl
 ·rw [if_neg hn, if_neg hn]
theorem NextNode_i (w h n p : Int) : impl_NextNode.f w h n p = some (nextR w h n p) := by
 have e : impl_NextNode.f w h n p = spec_NextNode.f w h n p := by
  unfold impl_NextNode.f spec_NextNode.f
  simp only [isNode_i, l02Has_s, NodeAt_i, NodeAt_s]
 rw [e, NextNode_s]
def leadsR (w h c : Int) : Bool := decide (0 ≤ c ∧ c ≤ 4 * ncR w h - 1) && decide (nextR w h (c / 4) (c % 4) ≥ 0)
theorem leads_s (w h c : Int) : spec_l03Leads.f w h c = some (leadsR w h c) := by
 unfold spec_l03Leads.f leadsR
 have hb := ncR_b w h
 simp only [NodeCount_s, l01In_f, Option.bind_some, decide_eq_true_eq]
 rw [w64 (x := 4 * ncR w h) (by omega) (by omega), w64 (x := 4 * ncR w h - 1) (by omega) (by omega)]
 by_cases hc : 0 ≤ c ∧ c ≤ 4 * ncR w h - 1
 ·rw [if_pos hc, Int.tdiv_eq_ediv_of_nonneg hc.1, Int.tmod_eq_emod_of_nonneg hc.1, w64 (x := c / 4) (by omega) (by omega), NextNode_s]
  simp [hc]
 ·rw [if_neg hc]
  simp [hc]
theorem leads_i (w h c : Int) : impl_leads.f w h c = some (leadsR w h c) := by
 have e : impl_leads.f w h c = spec_l03Leads.f w h c := by
  unfold impl_leads.f spec_l03Leads.f
  simp only [NodeCount_i, NodeCount_s, inside_f, l01In_f, NextNode_i, NextNode_s]
 rw [e, leads_s]

theorem pickL_f (b : List Int) (i h : Int) (hc : CurOk b i) (L : List Int) (hL : 0 < L.length) : ∃ v i' h', spec_l01PickInt.f b i h L = some (v, i', h') ∧ CurOk b i' := by
 obtain ⟨r, i', h', e, r0, r1, _, hc'⟩ := l01Below_f b i h (L.length : Int) hc
 have r2 := r1 (by omega)
 refine ⟨rd L r, i', h', ?_, hc'⟩
 unfold spec_l01PickInt.f
 rw [e, Option.bind_some, if_pos r0, if_pos r2]
theorem l02Any_f (b : List Int) (i h : Int) (hc : CurOk b i) : ∃ w g i' h', spec_l02Any.f b i h = some (w, g, i', h') ∧ CurOk b i' := by
 obtain ⟨w, g, i1, h1, e1, _, c1⟩ := l02Grid_f b i h hc
 obtain ⟨r, i2, h2, e2, _, _, _, c2⟩ := l01Below_f b i1 h1 12 c1
 obtain ⟨x, i3, h3, e3, c3⟩ := pickL_f b i2 h2 c2 [0, 4, 5, (-1)] (by decide)
 obtain ⟨y, i4, h4, e4, c4⟩ := pickL_f b i2 h2 c2 [0, 4, 5, 9223372036854775807] (by decide)
 by_cases q : r = 0
 ·exact ⟨x, g, i3, h3, by unfold spec_l02Any.f; simp only [e1, e2, e3, Option.bind_some, if_pos q], c3⟩
 by_cases q1 : r = 1
 ·exact ⟨w, y, i4, h4, by unfold spec_l02Any.f; simp only [e1, e2, e4, Option.bind_some, if_neg q, if_pos q1], c4⟩
 ·exact ⟨w, g, i2, h2, by unfold spec_l02Any.f; simp only [e1, e2, Option.bind_some, if_neg q, if_neg q1], c2⟩
theorem l03Mesh_l0 (b : List Int) (w g : Int) : ∀ (d : Nat) (x i h : Int) (br : List Int), CurOk b i → 0 ≤ x → 4 * ncR w g - x = (d : Int) → br.length + d ≤ 64 → ∃ m i' h', Ev (fun k => spec_l03Mesh.l0 k x b i h w g br) (w, g, m, i', h') ∧ m.length ≤ 64 ∧ CurOk b i'
 | 0, x, i, h, br, hc, hx, hd, hl => by
  have hb := ncR_b w g
  have hw : wrap64 (4 * ncR w g) = 4 * ncR w g := w64 (by omega) (by omega)
  refine ⟨br, i, h, Ev.suc ?_, by omega, hc⟩
  simp only [spec_l03Mesh.l0, NodeCount_s, Option.bind_some, hw]
  exact Ev.ite_neg (by omega) (Ev.now _)
 | d + 1, x, i, h, br, hc, hx, hd, hl => by
  have hb := ncR_b w g
  have hw : wrap64 (4 * ncR w g) = 4 * ncR w g := w64 (by omega) (by omega)
  have hw1 : wrap64 (x + 1) = x + 1 := w64 (by omega) (by omega)
  cases hq : leadsR w g x with
  | false =>
   obtain ⟨m, i', h', e, g1, g2⟩ := l03Mesh_l0 b w g d (x + 1) i h br hc (by omega) (by omega) (by omega)
   refine ⟨m, i', h', Ev.suc ?_, g1, g2⟩
   simp only [spec_l03Mesh.l0, NodeCount_s, leads_s, hq, Option.bind_some, hw, hw1]
   exact Ev.ite_pos (by omega) (Ev.ite_neg (by simp) e)
  | true =>
   obtain ⟨r, i1, h1, e1, r0, r1, _, c1⟩ := l01Below_f b i h 9 hc
   by_cases q : r = 0
   ·obtain ⟨m, i', h', e, g1, g2⟩ := l03Mesh_l0 b w g d (x + 1) i1 h1 (br ++ [x]) c1 (by omega) (by omega) (by simp; omega)
    refine ⟨m, i', h', Ev.suc ?_, g1, g2⟩
    simp only [spec_l03Mesh.l0, spec_l01Once.f, e1, NodeCount_s, leads_s, hq, Option.bind_some, hw, hw1]
    exact Ev.ite_pos (by omega) (Ev.ite_pos (by simp) (Ev.ite_pos (by simp [q]) (Ev.ite_pos (by omega) e)))
   ·obtain ⟨m, i', h', e, g1, g2⟩ := l03Mesh_l0 b w g d (x + 1) i1 h1 br c1 (by omega) (by omega) (by omega)
    refine ⟨m, i', h', Ev.suc ?_, g1, g2⟩
    simp only [spec_l03Mesh.l0, spec_l01Once.f, e1, NodeCount_s, leads_s, hq, Option.bind_some, hw, hw1]
    exact Ev.ite_pos (by omega) (Ev.ite_pos (by simp) (Ev.ite_neg (by simp [q]) e))
theorem l03Mesh_f (b : List Int) (i h : Int) (hc : CurOk b i) : ∃ w g m i' h', Ev (fun k => spec_l03Mesh.f k b i h) (w, g, m, i', h') ∧ m.length ≤ 64 ∧ CurOk b i' := by
 obtain ⟨w, g, i1, h1, e1, _, c1⟩ := l02Grid_f b i h hc
 obtain ⟨r, i2, h2, e2, _, _, _, c2⟩ := l01Below_f b i1 h1 3 c1
 have hb := ncR_b w g
 obtain ⟨m, i3, h3, e3, g1, c3⟩ := l03Mesh_l0 b w g (4 * ncR w g).toNat 0 i2 h2 [] c2 (by omega) (by omega) (by simp; omega)
 by_cases q : r = 0
 ·refine ⟨w, g, m, i3, h3, ?_, g1, c3⟩
  unfold spec_l03Mesh.f
  simp only [e1, spec_l01Once.f, e2, Option.bind_some]
  exact Ev.ite_pos (by simp [q]) e3
 ·refine ⟨w, g, [], i2, h2, ?_, by simp, c2⟩
  unfold spec_l03Mesh.f
  simp only [e1, spec_l01Once.f, e2, Option.bind_some]
  exact Ev.ite_neg (by simp [q]) (Ev.now _)
theorem l03Any_f (b : List Int) (i h : Int) (hc : CurOk b i) : ∃ w g m i' h', Ev (fun k => spec_l03Any.f k b i h) (w, g, m, i', h') ∧ m.length ≤ 65 ∧ CurOk b i' := by
 obtain ⟨w, g, m, i1, h1, e1, g1, c1⟩ := l03Mesh_f b i h hc
 obtain ⟨r, i2, h2, e2, _, _, _, c2⟩ := l01Below_f b i1 h1 14 c1
 obtain ⟨w2, g2, i3, h3, e3, c3⟩ := l02Any_f b i2 h2 c2
 obtain ⟨y, i4, h4, e4, c4⟩ := pickL_f b i2 h2 c2 [(-1), 0, 5, 63, 64] (by decide)
 by_cases q : r = 0
 ·refine ⟨w2, g2, m, i3, h3, ?_, by omega, c3⟩
  unfold spec_l03Any.f
  refine Ev.bind e1 ?_
  simp only [e2, e3, Option.bind_some, if_pos q]
  exact Ev.now _
 by_cases q1 : r = 1
 ·refine ⟨w, g, m ++ [y], i4, h4, ?_, by simp; omega, c4⟩
  unfold spec_l03Any.f
  refine Ev.bind e1 ?_
  simp only [e2, e4, Option.bind_some, if_neg q, if_pos q1]
  exact Ev.ite_pos (by omega) (Ev.now _)
 ·refine ⟨w, g, m, i2, h2, ?_, by omega, c2⟩
  unfold spec_l03Any.f
  refine Ev.bind e1 ?_
  simp only [e2, Option.bind_some, if_neg q, if_neg q1]
  exact Ev.now _
theorem stdT_pos (w h rule : Int) (hg : gOk w h) : 0 < (stdT w h rule).length := by
 unfold stdT
 rw [stdL_len]
 have : 0 < ncR w h := by
  unfold ncR
  rw [if_pos hg]
  exact Int.mul_pos (by have := hg.1; omega) (by have := hg.2.2.1; omega)
 exact Nat.mul_pos (by omega) (by omega)
theorem l04Any_f (b : List Int) (i h : Int) (hc : CurOk b i) : ∃ w g m ps i' h', Ev (fun k => spec_l04Any.f k b i h) (w, g, m, ps, i', h') ∧ m.length ≤ 65 ∧ CurOk b i' := by
 obtain ⟨w, g, i1, h1, e1, hg, c1⟩ := l02Grid_f b i h hc
 obtain ⟨x, i2, h2, e2, x0, x1, _, c2⟩ := l01Below_f b i1 h1 4 c1
 have x1 := x1 (by omega)
 have wx : wrap64 (1 + x) = 1 + x := w64 (by omega) (by omega)
 have ec : Ev (fun k => spec_l04Case.f k b i h) (w, g, [], stdT w g (1 + x), i2, h2) := by
  unfold spec_l04Case.f
  simp only [e1, e2, wx, Option.bind_some]
  exact Ev.bind (l05Make_s w g (1 + x) hg) (Ev.now _)
 have hp := stdT_pos w g (1 + x) hg
 generalize stdT w g (1 + x) = ps at *
 obtain ⟨r, i3, h3, e3, _, _, _, c3⟩ := l01Below_f b i2 h2 12 c2
 by_cases q : r = 0
 ·obtain ⟨w2, g2, m, i4, h4, e4, g4, c4⟩ := l03Any_f b i3 h3 c3
  refine ⟨w2, g2, m, ps, i4, h4, ?_, g4, c4⟩
  unfold spec_l04Any.f
  refine Ev.bind ec ?_
  simp only [e3, Option.bind_some, if_pos q]
  exact Ev.bind e4 (Ev.now _)
 by_cases q1 : r = 1
 ·refine ⟨w, g, [], ps.drop (1 : Int).toNat, i3, h3, ?_, by simp, c3⟩
  unfold spec_l04Any.f
  refine Ev.bind ec ?_
  simp only [e3, Option.bind_some, if_neg q, if_pos q1]
  exact Ev.ite_pos (by omega) (Ev.now _)
 by_cases q2 : r = 2
 ·obtain ⟨y, i4, h4, e4, y0, y1, _, c4⟩ := l01Below_f b i3 h3 (ps.length : Int) c3
  obtain ⟨z, i5, h5, e5, _, _, _, c5⟩ := l01Below_f b i4 h4 7 c4
  have y1 := y1 (by omega)
  refine ⟨w, g, [], ps.set (y : Int).toNat (wrap64 (z - 1)), i5, h5, ?_, by simp, c5⟩
  unfold spec_l04Any.f
  refine Ev.bind ec ?_
  simp only [e3, e4, e5, Option.bind_some, if_neg q, if_neg q1, if_pos q2]
  exact Ev.ite_pos y0 (Ev.ite_pos y1 (Ev.now _))
 ·refine ⟨w, g, [], ps, i3, h3, ?_, by simp, c3⟩
  unfold spec_l04Any.f
  refine Ev.bind ec ?_
  simp only [e3, Option.bind_some, if_neg q, if_neg q1, if_neg q2]
  exact Ev.now _
theorem DrawCheckTable_f (b : List Int) (hb : b.length ≤ 140737488351232) : ∃ w g m ps, Ev (fun k => spec_DrawCheckTable.f k b) (w, g, m, ps) ∧ m.length ≤ 65 := by
 obtain ⟨h', hn⟩ := l01New_f b hb
 obtain ⟨w, g, m, ps, i1, h1, e1, g1, _⟩ := l04Any_f b 0 h' (l01New_ok b hb)
 refine ⟨w, g, m, ps, ?_, g1⟩
 unfold spec_DrawCheckTable.f
 exact Ev.bind hn (Ev.bind e1 (Ev.now _))

/-- The list from an element on, behind what stands ahead of it. -/
def brR (w h : Int) : Option Int → List Int → Bool
 | _, [] => true
 | p, x :: r => leadsR w h x && (match p with | none => true | some y => decide (y < x)) && brR w h (some x) r
def meshR (w h : Int) (br : List Int) : Bool := decide (gOk w h) && brR w h none br
theorem rd_app_last (pre : List Int) (y : Int) (rest : List Int) : rd (pre ++ [y] ++ rest) (((pre ++ [y]).length : Int) - 1) = y := by
 have e : ((pre ++ [y]).length : Int) - 1 = (pre.length : Int) := by
  rw [len_snoc]
  omega
 rw [e, List.append_assoc]
 exact rd_mid pre y rest

/-- A channel of a valid mesh. -/
def hasR (w h : Int) (br : List Int) (c : Int) : Bool := leadsR w h c && !decide (c ∈ br)

theorem idx_b {n x y : Int} (hn : 0 ≤ n ∧ n ≤ 16) (hx : 0 ≤ x ∧ x ≤ n - 1) (hy : 0 ≤ y ∧ y ≤ n - 1) : 0 ≤ x * n ∧ x * n ≤ 256 ∧ x * n + y < n * n ∧ n * n ≤ 256 := by
 have h1 : 0 ≤ x * n := Int.mul_nonneg hx.1 hn.1
 have h2 : (x + 1) * n ≤ n * n := Int.mul_le_mul_of_nonneg_right (by omega) hn.1
 have h3 : n * n ≤ 16 * n := Int.mul_le_mul_of_nonneg_right hn.2 hn.1
 rw [Int.add_mul, Int.one_mul] at h2
 omega
theorem idx_w {n x y : Int} (hn : 0 ≤ n ∧ n ≤ 16) (hx : 0 ≤ x ∧ x ≤ n - 1) (hy : 0 ≤ y ∧ y ≤ n - 1) : wrap64 (wrap64 (x * n) + y) = x * n + y ∧ wrap64 (n * n) = n * n := by
 have hb := idx_b hn hx hy
 generalize x * n = m at *
 generalize n * n = q at *
 rw [w64 (x := m) (by omega) (by omega), w64 (x := m + y) (by omega) (by omega), w64 (x := q) (by omega) (by omega)]
 exact ⟨rfl, rfl⟩
/-- The walk from a node on, d channels at most still allowed. -/
def walkGo (w h : Int) (br ps : List Int) (dst : Int) : Nat → List Int → Int → List Int
 | 0, _, _ => []
 | d + 1, acc, x => if rd ps (x * ncR w h + dst) = 4 then (if x = dst then acc else []) else
   if (0 ≤ rd ps (x * ncR w h + dst) ∧ rd ps (x * ncR w h + dst) ≤ 3) ∧ hasR w h br (4 * x + rd ps (x * ncR w h + dst)) = true then
    walkGo w h br ps dst d (acc ++ [4 * x + rd ps (x * ncR w h + dst)]) (nextR w h x (rd ps (x * ncR w h + dst)))
   else []
def walkR (w h : Int) (br ps : List Int) (x dst : Int) : List Int := walkGo w h br ps dst ((ncR w h).toNat + 1) [] x
theorem walkGo_zero (w h : Int) (br ps : List Int) (dst : Int) (acc : List Int) (x : Int) (hx : ¬ (rd ps (x * ncR w h + dst) = 4)) : walkGo w h br ps dst 1 acc x = [] := by
 unfold walkGo
 rw [if_neg hx]
 split <;> rfl
theorem ch_div {x p : Int} (hp : 0 ≤ p ∧ p ≤ 3) : (4 * x + p) / 4 = x ∧ (4 * x + p) % 4 = p := by omega
theorem has_next {w h : Int} {br : List Int} {x p : Int} (hp : 0 ≤ p ∧ p ≤ 3) (hh : hasR w h br (4 * x + p) = true) : nodeOk w h (nextR w h x p) := by
 unfold hasR leadsR at hh
 obtain ⟨e1, e2⟩ := ch_div (x := x) hp
 rw [e1, e2] at hh
 simp only [Bool.and_eq_true, decide_eq_true_eq] at hh
 rcases nextR_b w h x p with h1 | h1
 ·rw [h1] at hh
  omega
 ·exact h1

def diagOk (w h : Int) (ps : List Int) : Prop := ∀ x : Nat, (x : Int) < ncR w h → rd ps ((x : Int) * ncR w h + (x : Int)) = 4
def walksOk (w h : Int) (br ps : List Int) : Prop := ∀ x y : Nat, (x : Int) < ncR w h → (y : Int) < ncR w h → x ≠ y → walkR w h br ps (x : Int) (y : Int) ≠ []
/-- A table is valid. -/
def tableOk (w h : Int) (br ps : List Int) : Prop := meshR w h br = true ∧ (ps.length : Int) = ncR w h * ncR w h ∧ diagOk w h ps ∧ walksOk w h br ps

theorem rdI_Depend (pre : List S98) (x : S98) (rest : List S98) : rd_T98 (pre ++ x :: rest) (pre.length : Int) = x := getD_mid pre x rest _

abbrev dIn (x : S98) : Prop := (0 ≤ x.f0 ∧ x.f0 ≤ 127) ∧ (0 ≤ x.f1 ∧ x.f1 ≤ 127)
abbrev dLt (a b : S98) : Prop := a.f0 < b.f0 ∨ (a.f0 = b.f0 ∧ a.f1 < b.f1)
def dGo : S98 → List S98 → Bool
 | _, [] => true
 | y, x :: r => decide (dIn x) && (decide (dLt y x) && dGo x r)
/-- The list of depends is valid. -/
def dAll : List S98 → Bool
 | [] => true
 | x :: r => decide (dIn x) && dGo x r
theorem dGo_cons (y x : S98) (r : List S98) : dGo y (x :: r) = (decide (dIn x) && (decide (dLt y x) && dGo x r)) := rfl
theorem dAll_cons (x : S98) (r : List S98) : dAll (x :: r) = (decide (dIn x) && dGo x r) := rfl
theorem prev_rd (p : List S98) (y x : S98) (rest : List S98) (hl : (p ++ [y]).length + rest.length < 1152921504606846976) : wrap64 (((p ++ [y]).length : Int) - 1) = (p.length : Int) ∧ rd_T98 (p ++ [y] ++ x :: rest) (p.length : Int) = y := by
 refine ⟨?_, ?_⟩
 ·simp only [List.length_append, List.length_cons, List.length_nil] at hl ⊢
  rw [w64 (by omega) (by omega)]
  omega
 ·rw [List.append_assoc]
  exact rdI_Depend p y (x :: rest)

theorem dLt_trans {a b c : S98} (h : dLt a b) (k : dLt b c) : dLt a c := by
 unfold dLt at *
 omega
theorem dGo_iff : ∀ (r : List S98) (y : S98), dGo y r = true ↔ (∀ x ∈ r, dIn x) ∧ (y :: r).Pairwise dLt
 | [], y => by simp [dGo]
 | z :: r, y => by
  rw [dGo_cons, Bool.and_eq_true, Bool.and_eq_true, decide_eq_true_eq, decide_eq_true_eq, dGo_iff r z]
  constructor
  ·rintro ⟨h1, h2, h3, h4⟩
   refine ⟨fun x hx => ?_, List.pairwise_cons.2 ⟨fun x hx => ?_, h4⟩⟩
   ·rcases List.mem_cons.1 hx with rfl | hx
    ·exact h1
    ·exact h3 x hx
   ·rcases List.mem_cons.1 hx with rfl | hx
    ·exact h2
    ·exact dLt_trans h2 ((List.pairwise_cons.1 h4).1 x hx)
  ·rintro ⟨h1, h2⟩
   rw [List.pairwise_cons] at h2
   exact ⟨h1 z List.mem_cons_self, h2.1 z List.mem_cons_self, fun x hx => h1 x (List.mem_cons_of_mem _ hx), h2.2⟩
theorem dAll_iff : ∀ (l : List S98), dAll l = true ↔ (∀ x ∈ l, dIn x) ∧ l.Pairwise dLt
 | [] => by simp [dAll]
 | z :: r => by
  rw [dAll_cons, Bool.and_eq_true, decide_eq_true_eq, dGo_iff]
  constructor
  ·rintro ⟨h1, h2, h3⟩
   refine ⟨fun x hx => ?_, h3⟩
   rcases List.mem_cons.1 hx with rfl | hx
   ·exact h1
   ·exact h2 x hx
  ·rintro ⟨h1, h2⟩
   exact ⟨h1 z List.mem_cons_self, fun x hx => h1 x (List.mem_cons_of_mem _ hx), h2⟩
theorem rdD_at (l : List S98) (i : Nat) (h : i < l.length) : rd_T98 l (i : Int) = l[i] := by
 show l.getD (i : Int).toNat _ = _
 rw [Int.toNat_natCast, List.getD_eq_getElem?_getD, List.getElem?_eq_getElem h]
 rfl

theorem sdLe_trans (a b c : SD) (h : sdLe a b = true) (k : sdLe b c = true) : sdLe a c = true := by
 unfold sdLe at *
 rw [decide_eq_true_eq] at *
 omega
theorem sdLe_total (a b : SD) : (sdLe a b || sdLe b a) = true := by
 unfold sdLe
 rw [Bool.or_eq_true, decide_eq_true_eq, decide_eq_true_eq]
 omega
abbrev sdL (a b : SD) : Prop := a.1.val < b.1.val ∨ (a.1.val = b.1.val ∧ a.2.val < b.2.val)
theorem sdL_of {a b : SD} (h : sdLe a b = true) (hne : a ≠ b) : sdL a b := by
 unfold sdLe at h
 rw [decide_eq_true_eq] at h
 have : ¬ (a.1.val = b.1.val ∧ a.2.val = b.2.val) := fun e => hne (Prod.ext (Fin.ext e.1) (Fin.ext e.2))
 unfold sdL
 omega
theorem sdDd_mem : ∀ (l : List SD) (x : SD), x ∈ sdDd l ↔ x ∈ l
 | [], x => Iff.rfl
 | [a], x => Iff.rfl
 | a :: b :: r, x => by
  have ih := sdDd_mem (b :: r) x
  show (x ∈ if a = b then sdDd (b :: r) else a :: sdDd (b :: r)) ↔ x ∈ a :: b :: r
  by_cases h : a = b
  ·rw [if_pos h, ih, h]
   simp
  ·rw [if_neg h, List.mem_cons, ih, List.mem_cons (a := x) (b := a)]
theorem sdDd_len : ∀ (l : List SD), (sdDd l).length ≤ l.length
 | [] => Nat.le_refl _
 | [a] => Nat.le_refl _
 | a :: b :: r => by
  have ih := sdDd_len (b :: r)
  show (if a = b then sdDd (b :: r) else a :: sdDd (b :: r)).length ≤ (a :: b :: r).length
  split
  ·simp only [List.length_cons] at *
   omega
  ·simp only [List.length_cons] at *
   omega
theorem sdDd_sorted : ∀ (l : List SD), l.Pairwise (fun a b => sdLe a b = true) → (sdDd l).Pairwise sdL
 | [], _ => .nil
 | [a], _ => List.pairwise_singleton _ _
 | a :: b :: r, h => by
  have h1 := List.pairwise_cons.1 h
  have ih := sdDd_sorted (b :: r) h1.2
  show (if a = b then sdDd (b :: r) else a :: sdDd (b :: r)).Pairwise sdL
  by_cases e : a = b
  ·rw [if_pos e]
   exact ih
  ·rw [if_neg e]
   refine List.pairwise_cons.2 ⟨fun x hx => ?_, ih⟩
   have hx := (sdDd_mem (b :: r) x).1 hx
   have hab := sdL_of (h1.1 b List.mem_cons_self) e
   rcases List.mem_cons.1 hx with rfl | hx
   ·exact hab
   ·have hbx := (List.pairwise_cons.1 h1.2).1 x hx
    unfold sdLe at hbx
    rw [decide_eq_true_eq] at hbx
    unfold sdL at *
    omega
theorem sdIn_of {x : S98} (h : dIn x) : sdIn x = true := decide_eq_true h
theorem sdTo_in (x : SD) : dIn (sdTo x) := by
 have h0 := x.1.isLt
 have h1 := x.2.isLt
 show (0 ≤ (x.1.val : Int) ∧ (x.1.val : Int) ≤ 127) ∧ (0 ≤ (x.2.val : Int) ∧ (x.2.val : Int) ≤ 127)
 omega
theorem sdTo_of' {x : S98} (h : dIn x) : sdTo (sdOf x) = x := by
 have h : (0 ≤ x.f0 ∧ x.f0 ≤ 127) ∧ (0 ≤ x.f1 ∧ x.f1 ≤ 127) := h
 show (⟨((x.f0.toNat % 128 : Nat) : Int), ((x.f1.toNat % 128 : Nat) : Int)⟩ : S98) = x
 have e0 : ((x.f0.toNat % 128 : Nat) : Int) = x.f0 := by omega
 have e1 : ((x.f1.toNat % 128 : Nat) : Int) = x.f1 := by omega
 rw [e0, e1]
/-- What 'arranged' gives: the same dependencies, in order, each once. -/
theorem arr_i (l : List S98) (hd : ∀ x ∈ l, dIn x) (hl : l.length ≤ 1048576) : ∃ r, impl_arranged.f l = some r ∧ dAll r = true ∧ (∀ x, x ∈ r ↔ x ∈ l) ∧ r.length ≤ l.length := by
 have hp := List.mergeSort_perm (l.map sdOf) sdLe
 have hs := List.pairwise_mergeSort sdLe_trans sdLe_total (l.map sdOf)
 refine ⟨(sdDd ((l.map sdOf).mergeSort sdLe)).map sdTo, ?_, ?_, fun x => ?_, ?_⟩
 ·unfold impl_arranged.f
  rw [if_pos ⟨List.all_eq_true.2 (fun x hx => sdIn_of (hd x hx)), by omega⟩]
 ·refine (dAll_iff _).2 ⟨fun x hx => ?_, ?_⟩
  ·obtain ⟨y, _, rfl⟩ := List.mem_map.1 hx
   exact sdTo_in y
  ·rw [List.pairwise_map]
   refine (sdDd_sorted _ hs).imp fun {a b} h => ?_
   show (a.1.val : Int) < (b.1.val : Int) ∨ ((a.1.val : Int) = (b.1.val : Int) ∧ (a.2.val : Int) < (b.2.val : Int))
   unfold sdL at h
   omega
 ·rw [List.mem_map]
  constructor
  ·rintro ⟨y, hy, rfl⟩
   rw [sdDd_mem, hp.mem_iff, List.mem_map] at hy
   obtain ⟨z, hz, rfl⟩ := hy
   rw [sdTo_of' (hd z hz)]
   exact hz
  ·intro hx
   exact ⟨sdOf x, by rw [sdDd_mem, hp.mem_iff]; exact List.mem_map.2 ⟨x, hx, rfl⟩, sdTo_of' (hd x hx)⟩
 ·rw [List.length_map]
  have := sdDd_len ((l.map sdOf).mergeSort sdLe)
  rw [hp.length_eq, List.length_map] at this
  exact this
/-- Valid dependencies are told by their members. -/
theorem dAll_ext : ∀ (l m : List S98), dAll l = true → dAll m = true → (∀ x, x ∈ l ↔ x ∈ m) → l = m := by
 have irr : ∀ a : S98, ¬ dLt a a := fun a => by unfold dLt; omega
 have asy : ∀ a b : S98, dLt a b → dLt b a → False := fun a b h k => by unfold dLt at *; omega
 have key : ∀ (l m : List S98), l.Pairwise dLt → m.Pairwise dLt → (∀ x, x ∈ l ↔ x ∈ m) → l = m := by
  intro l
  induction l with
  | nil =>
   intro m _ _ h
   cases m with
   | nil => rfl
   | cons b m => exact absurd ((h b).2 List.mem_cons_self) List.not_mem_nil
  | cons a l ih =>
   intro m hl hm h
   cases m with
   | nil => exact absurd ((h a).1 List.mem_cons_self) List.not_mem_nil
   | cons b m =>
    have hl' := List.pairwise_cons.1 hl
    have hm' := List.pairwise_cons.1 hm
    have e : a = b := by
     rcases List.mem_cons.1 ((h a).1 List.mem_cons_self) with e | h1
     ·exact e
     ·rcases List.mem_cons.1 ((h b).2 List.mem_cons_self) with e | h2
      ·exact e.symm
      ·exact (asy a b (hl'.1 b h2) (hm'.1 a h1)).elim
    subst e
    rw [ih m hl'.2 hm'.2 (fun x => ?_)]
    have hx := h x
    rw [List.mem_cons, List.mem_cons] at hx
    constructor
    ·intro h1
     rcases hx.1 (Or.inr h1) with rfl | h2
     ·exact absurd (hl'.1 x h1) (irr x)
     ·exact h2
    ·intro h1
     rcases hx.2 (Or.inr h1) with rfl | h2
     ·exact absurd (hm'.1 x h1) (irr x)
     ·exact h2
 exact fun l m hl hm h => key l m ((dAll_iff l).1 hl).2 ((dAll_iff m).1 hm).2 h

theorem walkGo_b (w h : Int) (br ps : List Int) (dst : Int) : ∀ (d : Nat) (acc : List Int) (x : Int), nodeOk w h x → (∀ c ∈ acc, 0 ≤ c ∧ c ≤ 63) → (∀ c ∈ walkGo w h br ps dst d acc x, 0 ≤ c ∧ c ≤ 63) ∧ (walkGo w h br ps dst d acc x).length ≤ acc.length + d
 | 0, acc, x, _, _ => ⟨fun c hc => (by cases hc), by simp [walkGo]⟩
 | d + 1, acc, x, hx, ha => by
  have hn := ncR_b w h
  have hx15 : 0 ≤ x ∧ x ≤ 15 := ⟨hx.1, by have := hx.2; omega⟩
  unfold walkGo
  generalize rd ps (x * ncR w h + dst) = p
  by_cases h4 : p = 4
  ·rw [if_pos h4]
   split
   ·exact ⟨ha, by omega⟩
   ·exact ⟨fun c hc => (by cases hc), by simp⟩
  ·rw [if_neg h4]
   split
   ·rename_i hc
    have ih := walkGo_b w h br ps dst d (acc ++ [4 * x + p]) (nextR w h x p) (has_next hc.1 hc.2) (fun c hm => by
     rcases List.mem_append.1 hm with hm | hm
     ·exact ha c hm
     ·rw [List.mem_singleton.1 hm]
      have := hc.1
      omega)
    refine ⟨ih.1, ?_⟩
    have := ih.2
    rw [List.length_append, List.length_singleton] at this
    omega
   ·exact ⟨fun c hc => (by cases hc), by simp⟩
theorem walkR_b (w h : Int) (br ps : List Int) (x dst : Int) (hx : nodeOk w h x) : (∀ c ∈ walkR w h br ps x dst, 0 ≤ c ∧ c ≤ 63) ∧ (walkR w h br ps x dst).length ≤ 17 := by
 have hn := ncR_b w h
 have h1 := walkGo_b w h br ps dst ((ncR w h).toNat + 1) [] x hx (fun c hc => by cases hc)
 refine ⟨h1.1, Nat.le_trans h1.2 ?_⟩
 simp only [List.length_nil]
 omega
theorem walkR_self (w h : Int) (br ps : List Int) (x : Int) (hd : rd ps (x * ncR w h + x) = 4) : walkR w h br ps x x = [] := by
 unfold walkR walkGo
 rw [if_pos hd, if_pos rfl]
def stepD (ws : List Int) (t : Nat) : S98 := ⟨rd ws (t : Int), rd ws ((t + 1 : Nat) : Int)⟩
def stepL (ws : List Int) : List S98 := (List.range (ws.length - 1)).map (stepD ws)
theorem stepL_len (ws : List Int) : (stepL ws).length = ws.length - 1 := by
 unfold stepL
 rw [List.length_map, List.length_range]
theorem rdN_mem {ws : List Int} {i : Nat} (h : i < ws.length) : rd ws (i : Int) ∈ ws := by
 have e : rd ws (i : Int) = ws[i] := by
  show ws.getD (i : Int).toNat _ = _
  rw [Int.toNat_natCast, List.getD_eq_getElem?_getD, List.getElem?_eq_getElem h]
  rfl
 rw [e]
 exact List.getElem_mem h
theorem stepL_in {ws : List Int} (hc : ∀ c ∈ ws, 0 ≤ c ∧ c ≤ 63) : ∀ x ∈ stepL ws, (0 ≤ x.f0 ∧ x.f0 ≤ 63) ∧ (0 ≤ x.f1 ∧ x.f1 ≤ 63) := by
 intro x hx
 unfold stepL at hx
 obtain ⟨t, ht, rfl⟩ := List.mem_map.1 hx
 rw [List.mem_range] at ht
 exact ⟨hc _ (rdN_mem (by omega)), hc _ (rdN_mem (by omega))⟩
def depTo (w h : Int) (br ps : List Int) (n m : Nat) : List S98 := (List.range m).flatMap fun i => stepL (walkR w h br ps ((i / n : Nat) : Int) ((i % n : Nat) : Int))
theorem depTo_succ (w h : Int) (br ps : List Int) (n m : Nat) : depTo w h br ps n (m + 1) = depTo w h br ps n m ++ stepL (walkR w h br ps ((m / n : Nat) : Int) ((m % n : Nat) : Int)) := by
 unfold depTo
 rw [List.range_succ, List.flatMap_append]
 simp
theorem node_of {w h : Int} {n i : Nat} (hn : (n : Int) = ncR w h) (hi : i < n * n) : nodeOk w h ((i / n : Nat) : Int) ∧ nodeOk w h ((i % n : Nat) : Int) := by
 have h0 : 0 < n := Nat.pos_of_ne_zero (fun e => by subst e; omega)
 have h1 : i / n < n := Nat.div_lt_of_lt_mul hi
 have h2 : i % n < n := Nat.mod_lt _ h0
 generalize i / n = q at h1 ⊢
 generalize i % n = s at h2 ⊢
 exact ⟨⟨by omega, by omega⟩, ⟨by omega, by omega⟩⟩
theorem depTo_len (w h : Int) (br ps : List Int) (n : Nat) (hn : (n : Int) = ncR w h) : ∀ m : Nat, m ≤ n * n → (depTo w h br ps n m).length ≤ 16 * m
 | 0, _ => by simp [depTo]
 | m + 1, hm => by
  have ih := depTo_len w h br ps n hn m (by omega)
  have h1 := (walkR_b w h br ps ((m / n : Nat) : Int) ((m % n : Nat) : Int) (node_of hn (by omega)).1).2
  have h2 := stepL_len (walkR w h br ps ((m / n : Nat) : Int) ((m % n : Nat) : Int))
  rw [depTo_succ, List.length_append]
  omega
theorem depTo_in (w h : Int) (br ps : List Int) (n : Nat) (hn : (n : Int) = ncR w h) (m : Nat) (hm : m ≤ n * n) : ∀ x ∈ depTo w h br ps n m, (0 ≤ x.f0 ∧ x.f0 ≤ 63) ∧ (0 ≤ x.f1 ∧ x.f1 ≤ 63) := by
 intro x hx
 unfold depTo at hx
 obtain ⟨i, hi, hi2⟩ := List.mem_flatMap.1 hx
 rw [List.mem_range] at hi
 exact stepL_in (walkR_b w h br ps _ _ (node_of hn (by omega)).1).1 x hi2

theorem Index_l0 (x : Int) : ∀ (rest pre : List Int), pre.length + rest.length < 1152921504606846976 → ∃ r, Ev (fun k => slices_Index_int_int.l0 k (pre ++ rest) x ((pre ++ rest).length : Int) (pre.length : Int)) r ∧ (r ≥ 0 ↔ x ∈ rest)
 | [], pre, _ => by
  refine ⟨-1, Ev.suc ?_, by simp⟩
  simp only [slices_Index_int_int.l0]
  exact Ev.ite_neg (by simp) (Ev.now _)
 | y :: rest, pre, hl => by
  simp only [List.length_cons] at hl
  have h1 : (pre.length : Int) < ((pre ++ y :: rest).length : Int) := by simp only [List.length_append, List.length_cons]; omega
  have hw : wrap64 ((pre.length : Int) + 1) = ((pre ++ [y]).length : Int) := by rw [w64 (by omega) (by omega), len_snoc]
  obtain ⟨r, hr, hr2⟩ := Index_l0 x rest (pre ++ [y]) (by simp only [List.length_append, List.length_cons, List.length_nil]; omega)
  rw [← snoc_app pre y rest] at hr
  by_cases h : x = y
  ·refine ⟨(pre.length : Int), Ev.suc ?_, by simp [h]⟩
   simp only [slices_Index_int_int.l0, rd_mid]
   exact Ev.ite_pos h1 (Ev.ite_pos (by omega) (Ev.ite_pos h1 (Ev.ite_pos h (Ev.now _))))
  ·refine ⟨r, Ev.suc ?_, by simp [h, hr2]⟩
   simp only [slices_Index_int_int.l0, rd_mid, hw]
   exact Ev.ite_pos h1 (Ev.ite_pos (by omega) (Ev.ite_pos h1 (Ev.ite_neg h hr)))
theorem Contains_i (l : List Int) (x : Int) (h : l.length < 1152921504606846976) : Ev (fun k => slices_Contains_int_int.f k l x) (decide (x ∈ l)) := by
 obtain ⟨r, hr, hr2⟩ := Index_l0 x l [] (by simpa using h)
 unfold slices_Contains_int_int.f slices_Index_int_int.f
 refine Ev.bind hr (Ev.val ?_)
 rw [decide_eq_decide]
 exact hr2

theorem MeshOk_i_l0 (w h : Int) : ∀ (rest pre : List Int) (y : Int), pre.length + rest.length < 1152921504606846976 → Ev (fun k => impl_MeshOk.l0 k ((pre ++ [y]) ++ rest) (((pre ++ [y]) ++ rest).length : Int) (((pre ++ [y])).length : Int) w h ((pre ++ [y]) ++ rest)) ((brR w h (some y) rest) && decide (gOk w h))
 | [], pre, y, hl => by
  refine Ev.suc ?_
  simp only [impl_MeshOk.l0]
  refine Ev.ite_neg (by simp) ?_
  exact Ev.bindS (GridOk_i w h) (Ev.val (by simp [brR]))
 | x :: rest, pre, y, hl => by
  simp only [List.length_cons] at hl
  have hp : (pre ++ [y]).length = pre.length + 1 := by simp
  have h1 : ((pre ++ [y]).length : Int) < ((pre ++ [y] ++ x :: rest).length : Int) := by simp only [List.length_append, List.length_cons, List.length_nil]; omega
  have hw : wrap64 (((pre ++ [y]).length : Int) + 1) = ((pre ++ [y] ++ [x]).length : Int) := by rw [w64 (by omega) (by omega)]; exact (len_snoc _ _).symm
  have hv : wrap64 (((pre ++ [y]).length : Int) - 1) = ((pre ++ [y]).length : Int) - 1 := w64 (by omega) (by omega)
  have e1 : rd (pre ++ [y] ++ x :: rest) (((pre ++ [y]).length : Int) - 1) = y := rd_app_last pre y (x :: rest)
  have e2 : rd (pre ++ [y] ++ x :: rest) ((pre ++ [y]).length : Int) = x := rd_mid _ _ _
  have ih := MeshOk_i_l0 w h rest (pre ++ [y]) x (by omega)
  rw [← snoc_app (pre ++ [y]) x rest] at ih
  refine Ev.suc ?_
  simp only [impl_MeshOk.l0, e1, e2, hw, hv, leads_i, Option.bind_some]
  refine Ev.ite_pos h1 (Ev.ite_pos (by omega) (Ev.ite_pos h1 (Ev.ite (fun hlx => ?_) (fun hlx => Ev.val ?_))))
  ·refine Ev.ite_pos (by omega) (Ev.ite_pos (by omega) (Ev.ite_pos (by omega) (Ev.ite (fun hc => Ev.val ?_) (fun hc => Ev.eq ih ?_))))
   ·have hc' : ¬ y < x := by omega
    simp [brR, hc']
   ·have hc' : y < x := by omega
    simp [brR, hlx, hc']
  ·simp [brR, hlx]
theorem MeshOk_i (w h : Int) (br : List Int) (hl : br.length < 1152921504606846976) : Ev (fun k => impl_MeshOk.f k w h br) (meshR w h br) := by
 unfold impl_MeshOk.f meshR
 skip
 cases br with
 | nil =>
  refine Ev.suc ?_
  simp only [impl_MeshOk.l0]
  refine Ev.ite_neg (by simp) ?_
  exact Ev.bindS (GridOk_i w h) (Ev.val (by simp [brR]))
 | cons x rest =>
  simp only [List.length_cons] at hl
  have z := MeshOk_i_l0 w h rest [] x (by simp; omega)
  have hw : wrap64 ((0 : Int) + 1) = ((([] : List Int) ++ [x]).length : Int) := by rw [w64 (by omega) (by omega)]; rfl
  have e2 : rd (x :: rest) 0 = x := rfl
  have h1 : (0 : Int) < ((x :: rest).length : Int) := by simp only [List.length_cons]; omega
  refine Ev.suc ?_
  simp only [impl_MeshOk.l0, e2, hw, leads_i, Option.bind_some]
  refine Ev.ite_pos h1 (Ev.ite_pos (by omega) (Ev.ite_pos h1 (Ev.ite (fun hlx => Ev.ite_neg (by omega) (Ev.eq z ?_)) (fun hlx => Ev.val ?_))))
  ·rw [Bool.and_comm]; simp [brR, hlx]
  ·simp [brR, hlx]

theorem HasChannel_i (w h : Int) (br : List Int) (c : Int) (hl : br.length < 1152921504606846976) : Ev (fun k => impl_HasChannel.f k w h br c) (meshR w h br && hasR w h br c) := by
 unfold impl_HasChannel.f hasR
 refine Ev.bind (MeshOk_i w h br hl) (Ev.ite (fun h0 => ?_) (fun h0 => Ev.val (by simp [h0])))
 refine Ev.bindS (leads_i w h c) (Ev.ite (fun h1 => ?_) (fun h1 => Ev.val (by simp [h1])))
 exact Ev.bind (Contains_i br c hl) (Ev.val (by simp [h0, h1]))

theorem PortAt_i (w h : Int) (br ps : List Int) (x dst : Int) (hbr : br.length < 1152921504606846976) (hm : meshR w h br = true) (hps : (ps.length : Int) = ncR w h * ncR w h) (hx : nodeOk w h x) (hd : nodeOk w h dst) :
  Ev (fun k => impl_PortAt.f k w h br ps x dst) (if 0 ≤ rd ps (x * ncR w h + dst) ∧ rd ps (x * ncR w h + dst) ≤ 4 then rd ps (x * ncR w h + dst) else -1) := by
 have hn := ncR_b w h
 have hb := idx_b hn hx hd
 obtain ⟨e1, e2⟩ := idx_w hn hx hd
 have hin1 : 0 ≤ x * ncR w h + dst := by
  have := hd.1
  omega
 have hin2 : x * ncR w h + dst < (ps.length : Int) := by
  rw [hps]
  exact hb.2.2.1
 have e3 : wrap64 (ncR w h - 1) = ncR w h - 1 := w64 (by omega) (by omega)
 unfold impl_PortAt.f
 refine Ev.bindS (NodeCount_i w h) (Ev.bind (MeshOk_i w h br hbr) (Ev.ite_pos hm ?_))
 simp only [inside_f, e1, e2, e3, Option.bind_some, decide_eq_true_eq]
 refine Ev.ite_pos hx (Ev.ite_pos hd (Ev.ite_pos hps (Ev.ite_pos hin1 (Ev.ite_pos hin2 (Ev.ite (fun hp => Ev.val ?_) (fun hp => Ev.val ?_))))))
 ·rw [if_pos hp]
 ·rw [if_neg hp]
theorem endOf_i (w h : Int) (br : List Int) (x p : Int) (hx : 0 ≤ x ∧ x ≤ 15) (hp : 0 ≤ p ∧ p ≤ 3) : impl_endOf.f w h br (4 * x + p) = some (nextR w h x p) := by
 obtain ⟨e1, e2⟩ := ch_div (x := x) hp
 unfold impl_endOf.f
 rw [Int.tdiv_eq_ediv_of_nonneg (by omega), Int.tmod_eq_emod_of_nonneg (by omega), e1, e2, w64 (x := x) (by omega) (by omega), NextNode_i]
 rfl
theorem WalkTable_l0 (w h : Int) (br ps : List Int) (dst : Int) (hbr : br.length < 1152921504606846976) (hm : meshR w h br = true) (hps : (ps.length : Int) = ncR w h * ncR w h) (hd : nodeOk w h dst) : ∀ (d : Nat) (acc : List Int) (x : Int), nodeOk w h x → (acc.length : Int) + d = ncR w h →
  Ev (fun k => impl_WalkTable.l0 k dst acc x w h br ps) (walkGo w h br ps dst (d + 1) acc x)
 | d, acc, x, hx, hl => by
  have hn := ncR_b w h
  have hx15 : 0 ≤ x ∧ x ≤ 15 := ⟨hx.1, by have := hx.2; omega⟩
  refine Ev.suc ?_
  simp only [impl_WalkTable.l0]
  refine Ev.bind (PortAt_i w h br ps x dst hbr hm hps hx hd) ?_
  have hz := walkGo_zero w h br ps dst acc x
  unfold walkGo
  have hacc : acc.length < 17592186044416 := by omega
  generalize rd ps (x * ncR w h + dst) = p at *
  by_cases h4 : p = 4
  ·subst h4
   simp only [show (0 : Int) ≤ 4 ∧ (4 : Int) ≤ 4 from by omega, and_self, if_true]
   refine Ev.ite_neg (by omega) (Ev.ite (fun h5 => Ev.val ?_) (fun h5 => Ev.val ?_))
   ·rw [if_pos h5]
   ·rw [if_neg h5]
  ·rw [if_neg h4]
   by_cases hp : 0 ≤ p ∧ p ≤ 3
   ·have e3 : wrap64 (wrap64 (4 * x) + p) = 4 * x + p := by rw [w64 (x := 4 * x) (by omega) (by omega), w64 (by omega) (by omega)]
    rw [if_pos (show 0 ≤ p ∧ p ≤ 4 by omega)]
    simp only [e3]
    refine Ev.ite_neg (by omega) (Ev.ite_neg h4 (Ev.bind (HasChannel_i w h br (4 * x + p) hbr) ?_))
    rw [hm, Bool.true_and]
    refine Ev.ite (fun hh => Ev.bindS (NodeCount_i w h) ?_) (fun hh => Ev.val ?_)
    ·rw [if_pos ⟨hp, hh⟩]
     cases d with
     | zero => exact Ev.ite_pos (by omega) (Ev.val rfl)
     | succ d =>
      refine Ev.ite_neg (by omega) (Ev.ite_pos hacc (Ev.bindS (endOf_i w h br x p hx15 hp) ?_))
      exact WalkTable_l0 w h br ps dst hbr hm hps hd d _ _ (has_next hp hh) (by simp only [List.length_append, List.length_cons, List.length_nil]; omega)
    ·rw [if_neg (fun z => hh z.2)]
   ·rw [if_neg (show ¬ (0 ≤ p ∧ p ≤ 4) by omega), if_neg (show ¬ ((0 ≤ p ∧ p ≤ 3) ∧ hasR w h br (4 * x + p) = true) from fun z => hp z.1)]
    exact Ev.ite_pos (by omega) (Ev.now _)
theorem WalkTable_i (w h : Int) (br ps : List Int) (x dst : Int) (hbr : br.length < 1152921504606846976) (hm : meshR w h br = true) (hps : (ps.length : Int) = ncR w h * ncR w h) (hx : nodeOk w h x) (hd : nodeOk w h dst) (hne : ¬ x = dst) :
  Ev (fun k => impl_WalkTable.f k w h br ps x dst) (walkR w h br ps x dst) := by
 unfold impl_WalkTable.f walkR
 have hn := ncR_b w h
 refine Ev.ite_neg hne (Ev.bind (MeshOk_i w h br hbr) (Ev.ite_pos hm ?_))
 simp only [isNode_i, Option.bind_some, decide_eq_true hx, decide_eq_true hd]
 refine Ev.ite_pos trivial ?_
 refine Ev.suc ?_
 simp only [impl_WalkTable.j0]
 refine Ev.ite_neg (by simp) ?_
 exact WalkTable_l0 w h br ps dst hbr hm hps hd _ [] x hx (by simp only [List.length_nil]; omega)

theorem TableOk_v (w h : Int) (br ps : List Int) (x y : Int) (hbr : br.length < 1152921504606846976) (hm : meshR w h br = true) (hps : (ps.length : Int) = ncR w h * ncR w h) (hx : nodeOk w h x) (hy : nodeOk w h y) (hne : ¬ x = y) :
  Ev (fun k => impl_TableOk.v k w h br ps x y) (decide (walkR w h br ps x y ≠ [])) := by
 unfold impl_TableOk.v
 refine Ev.bind (WalkTable_i w h br ps x y hbr hm hps hx hy hne) (Ev.val ?_)
 rw [decide_eq_decide]
 cases walkR w h br ps x y with
 | nil => simp
 | cons a l => simp
/-- One row of pairs, then what follows. -/
theorem TableOk_l2 (w h : Int) (br ps : List Int) (hbr : br.length < 1152921504606846976) (hm : meshR w h br = true) (hps : (ps.length : Int) = ncR w h * ncR w h) (n : Nat) (hn : (n : Int) = ncR w h) (x : Nat) (hx : x < n) (P : Prop)
  (hR : ∃ b, Ev (fun k => impl_TableOk.l1 k w h br ps (n : Int) ((x + 1 : Nat) : Int)) b ∧ (b = true ↔ P)) : ∀ (d y : Nat), y + d = n →
  ∃ b, Ev (fun k => impl_TableOk.l2 k w h br ps (n : Int) (x : Int) (y : Int)) b ∧ (b = true ↔ (∀ y' : Nat, y ≤ y' → y' < n → x ≠ y' → walkR w h br ps (x : Int) (y' : Int) ≠ []) ∧ P)
 | 0, y, hd => by
  obtain ⟨b, hb, hb2⟩ := hR
  have hnb := ncR_b w h
  refine ⟨b, Ev.suc ?_, ?_⟩
  ·simp only [impl_TableOk.l2]
   refine Ev.ite_neg (by omega) ?_
   have e : wrap64 ((x : Int) + 1) = ((x + 1 : Nat) : Int) := by rw [w64 (by omega) (by omega)]; omega
   rw [e]
   exact hb
  ·rw [hb2]
   exact ⟨fun hp => ⟨fun y' h1 h2 => absurd h2 (by omega), hp⟩, fun hp => hp.2⟩
 | d + 1, y, hd => by
  obtain ⟨b, hb, hb2⟩ := TableOk_l2 w h br ps hbr hm hps n hn x hx P hR d (y + 1) (by omega)
  have hnb := ncR_b w h
  have e : wrap64 ((y : Int) + 1) = ((y + 1 : Nat) : Int) := by rw [w64 (by omega) (by omega)]; omega
  by_cases hxy : x = y
  ·refine ⟨b, Ev.suc ?_, ?_⟩
   ·simp only [impl_TableOk.l2, e]
    exact Ev.ite_pos (by omega) (Ev.ite_pos (by omega) hb)
   ·rw [hb2]
    refine ⟨fun hp => ⟨fun y' h1 h2 h3 => hp.1 y' (by omega) h2 h3, hp.2⟩, fun hp => ⟨fun y' h1 h2 h3 => hp.1 y' (by omega) h2 h3, hp.2⟩⟩
  ·have hv := TableOk_v w h br ps (x : Int) (y : Int) hbr hm hps ⟨by omega, by omega⟩ ⟨by omega, by omega⟩ (by omega)
   by_cases hw : walkR w h br ps (x : Int) (y : Int) = []
   ·refine ⟨false, Ev.suc ?_, ?_⟩
    ·simp only [impl_TableOk.l2, e]
     refine Ev.ite_pos (by omega) (Ev.ite_neg (by omega) (Ev.bind hv (Ev.ite_neg (by simp [hw]) (Ev.now _))))
    ·refine ⟨fun z => absurd z Bool.false_ne_true, fun hp => absurd hw (hp.1 y (Nat.le_refl _) (by omega) hxy)⟩
   ·refine ⟨b, Ev.suc ?_, ?_⟩
    ·simp only [impl_TableOk.l2, e]
     exact Ev.ite_pos (by omega) (Ev.ite_neg (by omega) (Ev.bind hv (Ev.ite_pos (by simp [hw]) hb)))
    ·rw [hb2]
     refine ⟨fun hp => ⟨fun y' h1 h2 h3 => ?_, hp.2⟩, fun hp => ⟨fun y' h1 h2 h3 => hp.1 y' (by omega) h2 h3, hp.2⟩⟩
     by_cases hy : y' = y
     ·rw [hy]
      exact hw
     ·exact hp.1 y' (by omega) h2 h3
theorem TableOk_l1 (w h : Int) (br ps : List Int) (hbr : br.length < 1152921504606846976) (hm : meshR w h br = true) (hps : (ps.length : Int) = ncR w h * ncR w h) (n : Nat) (hn : (n : Int) = ncR w h) : ∀ (d x : Nat), x + d = n →
  ∃ b, Ev (fun k => impl_TableOk.l1 k w h br ps (n : Int) (x : Int)) b ∧ (b = true ↔ ∀ x' y' : Nat, x ≤ x' → x' < n → y' < n → x' ≠ y' → walkR w h br ps (x' : Int) (y' : Int) ≠ [])
 | 0, x, hd => by
  refine ⟨true, Ev.suc ?_, ?_⟩
  ·simp only [impl_TableOk.l1]
   exact Ev.ite_neg (by omega) (Ev.now _)
  ·exact ⟨fun _ x' y' h1 h2 => absurd h2 (by omega), fun _ => rfl⟩
 | d + 1, x, hd => by
  obtain ⟨b, hb, hb2⟩ := TableOk_l2 w h br ps hbr hm hps n hn x (by omega) _ (TableOk_l1 w h br ps hbr hm hps n hn d (x + 1) (by omega)) n 0 (by omega)
  refine ⟨b, Ev.suc ?_, ?_⟩
  ·simp only [impl_TableOk.l1]
   exact Ev.ite_pos (by omega) hb
  ·rw [hb2]
   refine ⟨fun hp x' y' h1 h2 h3 h4 => ?_, fun hp => ⟨fun y' h1 h2 h3 => hp x y' (Nat.le_refl _) (by omega) h2 h3, fun x' y' h1 h2 h3 h4 => hp x' y' (by omega) h2 h3 h4⟩⟩
   by_cases hx : x' = x
   ·subst hx
    exact hp.1 y' (Nat.zero_le _) h3 h4
   ·exact hp.2 x' y' (by omega) h2 h3 h4
theorem TableOk_l0 (w h : Int) (br ps : List Int) (hbr : br.length < 1152921504606846976) (hm : meshR w h br = true) (hps : (ps.length : Int) = ncR w h * ncR w h) (n : Nat) (hn : (n : Int) = ncR w h) : ∀ (d x : Nat), x + d = n →
  ∃ b, Ev (fun k => impl_TableOk.l0 k w h br ps (n : Int) (x : Int)) b ∧ (b = true ↔ (∀ x' : Nat, x ≤ x' → x' < n → rd ps ((x' : Int) * ncR w h + (x' : Int)) = 4) ∧ walksOk w h br ps)
 | 0, x, hd => by
  obtain ⟨b, hb, hb2⟩ := TableOk_l1 w h br ps hbr hm hps n hn n 0 (by omega)
  refine ⟨b, Ev.suc ?_, ?_⟩
  ·simp only [impl_TableOk.l0]
   refine Ev.ite_neg (by omega) ?_
   unfold impl_TableOk.ps
   refine Ev.bindS (NodeCount_i w h) ?_
   rw [← hn]
   exact hb
  ·rw [hb2]
   unfold walksOk
   rw [← hn]
   exact ⟨fun hp => ⟨fun x' h1 h2 => absurd h2 (by omega), fun x' y' h1 h2 h3 => hp x' y' (Nat.zero_le _) (by omega) (by omega) h3⟩, fun hp x' y' _ h2 h3 h4 => hp.2 x' y' (by omega) (by omega) h4⟩
 | d + 1, x, hd => by
  obtain ⟨b, hb, hb2⟩ := TableOk_l0 w h br ps hbr hm hps n hn d (x + 1) (by omega)
  have hnb := ncR_b w h
  have hxn : 0 ≤ (x : Int) ∧ (x : Int) ≤ ncR w h - 1 := by omega
  have e : wrap64 ((x : Int) + 1) = ((x + 1 : Nat) : Int) := by rw [w64 (by omega) (by omega)]; omega
  have hi := idx_b hnb hxn hxn
  have hi0 : 0 ≤ (x : Int) * ncR w h + (x : Int) := by omega
  have hi1 : (x : Int) * ncR w h + (x : Int) < (ps.length : Int) := by
   rw [hps]
   exact hi.2.2.1
  have ew := (idx_w hnb hxn hxn).1
  have hlt : (x : Int) < (n : Int) := by omega
  by_cases h4 : rd ps ((x : Int) * ncR w h + (x : Int)) = 4
  ·refine ⟨b, Ev.suc ?_, ?_⟩
   ·rw [hn] at hb hlt ⊢
    simp only [impl_TableOk.l0, ew, e]
    exact Ev.ite_pos hlt (Ev.ite_pos hi0 (Ev.ite_pos hi1 (Ev.ite_pos h4 hb)))
   ·rw [hb2]
    clear hi hi0 hi1 ew
    refine ⟨fun hp => ⟨fun x' h1 h2 => ?_, hp.2⟩, fun hp => ⟨fun x' h1 h2 => hp.1 x' (by omega) h2, hp.2⟩⟩
    by_cases hx : x' = x
    ·rw [hx]
     exact h4
    ·exact hp.1 x' (by omega) h2
  ·refine ⟨false, Ev.suc ?_, ?_⟩
   ·rw [hn] at hlt ⊢
    simp only [impl_TableOk.l0, ew, e]
    exact Ev.ite_pos hlt (Ev.ite_pos hi0 (Ev.ite_pos hi1 (Ev.ite_neg h4 (Ev.now _))))
   ·exact ⟨fun z => absurd z Bool.false_ne_true, fun hp => absurd (hp.1 x (Nat.le_refl _) (by omega)) h4⟩
theorem TableOk_i (w h : Int) (br ps : List Int) (hbr : br.length < 1152921504606846976) : ∃ b, Ev (fun k => impl_TableOk.f k w h br ps) b ∧ (b = true ↔ tableOk w h br ps) := by
 have hnb := ncR_b w h
 unfold impl_TableOk.f tableOk
 by_cases hm : meshR w h br = true
 ·have hsq : wrap64 (ncR w h * ncR w h) = ncR w h * ncR w h := by
   have h3 : ncR w h * ncR w h ≤ 16 * ncR w h := Int.mul_le_mul_of_nonneg_right hnb.2 hnb.1
   have h4 : 0 ≤ ncR w h * ncR w h := Int.mul_nonneg hnb.1 hnb.1
   generalize ncR w h * ncR w h = q at *
   exact w64 (by omega) (by omega)
  by_cases hps : (ps.length : Int) = ncR w h * ncR w h
  ·obtain ⟨n, hn⟩ : ∃ n : Nat, (n : Int) = ncR w h := ⟨(ncR w h).toNat, by omega⟩
   obtain ⟨b, hb, hb2⟩ := TableOk_l0 w h br ps hbr hm hps n hn n 0 (by omega)
   refine ⟨b, ?_, ?_⟩
   ·refine Ev.bindS (NodeCount_i w h) (Ev.bind (MeshOk_i w h br hbr) (Ev.ite_pos hm (Ev.ite_pos (by rw [hsq]; exact hps) ?_)))
    rw [← hn]
    exact hb
   ·rw [hb2]
    unfold diagOk
    exact ⟨fun hp => ⟨hm, hps, fun x hx => hp.1 x (Nat.zero_le _) (by omega), hp.2⟩, fun hp => ⟨fun x _ hx => hp.2.2.1 x (by omega), hp.2.2.2⟩⟩
  ·refine ⟨false, ?_, ⟨fun z => absurd z Bool.false_ne_true, fun hp => absurd hp.2.1 hps⟩⟩
   exact Ev.bindS (NodeCount_i w h) (Ev.bind (MeshOk_i w h br hbr) (Ev.ite_pos hm (Ev.ite_neg (by rw [hsq]; exact hps) (Ev.now _))))
 ·refine ⟨false, ?_, ⟨fun z => absurd z Bool.false_ne_true, fun hp => absurd hp.1 hm⟩⟩
  exact Ev.bindS (NodeCount_i w h) (Ev.bind (MeshOk_i w h br hbr) (Ev.ite_neg hm (Ev.now _)))

theorem di_l3 (ws : List Int) (hl : ws.length ≤ 17) (o : List S98) (ho : o.length ≤ 5000) : ∀ d t : Nat, t + d = ws.length - 1 → Ev (fun k => impl_DependsOf.l3 k ws ((t + 1 : Nat) : Int) (o ++ (List.range t).map (stepD ws))) (o ++ stepL ws)
 | 0, t, h => by
  have e : t = ws.length - 1 := by omega
  refine Ev.suc ?_
  simp only [impl_DependsOf.l3]
  refine Ev.ite_neg (by omega) ?_
  rw [e]
  exact Ev.now _
 | d + 1, t, h => by
  have hw : wrap64 (((t + 1 : Nat) : Int) - 1) = (t : Int) := by rw [w64 (by omega) (by omega)]; omega
  have hn : wrap64 (((t + 1 : Nat) : Int) + 1) = ((t + 1 + 1 : Nat) : Int) := by rw [w64 (by omega) (by omega)]; omega
  have ih := di_l3 ws hl o ho d (t + 1) (by omega)
  have hlen : (o ++ (List.range t).map (stepD ws)).length < 8796093022208 := by
   rw [List.length_append, List.length_map, List.length_range]
   omega
  refine Ev.suc ?_
  simp only [impl_DependsOf.l3, hw, hn]
  refine Ev.ite_pos (by omega) (Ev.ite_pos (by omega) (Ev.ite_pos (by omega) (Ev.ite_pos (by omega) (Ev.ite_pos hlen ?_))))
  rw [List.range_succ, List.map_append, ← List.append_assoc] at ih
  exact ih
theorem di_v (w h : Int) (br ps : List Int) (x y : Int) (o : List S98) (ho : o.length ≤ 5000) (hbr : br.length < 1152921504606846976) (hm : meshR w h br = true) (hps : (ps.length : Int) = ncR w h * ncR w h) (hx : nodeOk w h x) (hy : nodeOk w h y) (hne : ¬ x = y) :
  Ev (fun k => impl_DependsOf.v k w h br ps x y o) (o ++ stepL (walkR w h br ps x y)) := by
 have h3 := di_l3 (walkR w h br ps x y) (walkR_b w h br ps x y hx).2 o ho _ 0 (Nat.zero_add _)
 rw [List.range_zero, List.map_nil, List.append_nil] at h3
 unfold impl_DependsOf.v
 exact Ev.bind (WalkTable_i w h br ps x y hbr hm hps hx hy hne) h3
theorem di_l2 (w h : Int) (br ps : List Int) (hbr : br.length < 1152921504606846976) (ht : tableOk w h br ps) (n : Nat) (hn : (n : Int) = ncR w h) (x : Nat) (hx : x < n) (r : List S98)
  (H : Ev (fun k => impl_DependsOf.l1 k w h br ps (n : Int) ((x + 1 : Nat) : Int) (depTo w h br ps n (x * n + n))) r) : ∀ d y : Nat, y + d = n → Ev (fun k => impl_DependsOf.l2 k w h br ps (n : Int) (x : Int) (y : Int) (depTo w h br ps n (x * n + y))) r
 | 0, y, h0 => by
  have hnb := ncR_b w h
  have e : y = n := by omega
  have hw : wrap64 ((x : Int) + 1) = ((x + 1 : Nat) : Int) := by rw [w64 (by omega) (by omega)]; omega
  refine Ev.suc ?_
  simp only [impl_DependsOf.l2, hw]
  refine Ev.ite_neg (by omega) ?_
  rw [e]
  exact H
 | d + 1, y, h0 => by
  have hnb := ncR_b w h
  have ih := di_l2 w h br ps hbr ht n hn x hx r H d (y + 1) (by omega)
  have hw : wrap64 ((y : Int) + 1) = ((y + 1 : Nat) : Int) := by rw [w64 (by omega) (by omega)]; omega
  have e1 : (x * n + y) / n = x := by rw [Nat.add_comm, Nat.add_mul_div_right y x (by omega), Nat.div_eq_of_lt (by omega), Nat.zero_add]
  have e2 : (x * n + y) % n = y := by rw [Nat.add_comm, Nat.add_mul_mod_self_right, Nat.mod_eq_of_lt (by omega)]
  have es : depTo w h br ps n (x * n + (y + 1)) = depTo w h br ps n (x * n + y) ++ stepL (walkR w h br ps (x : Int) (y : Int)) := by
   rw [← Nat.add_assoc, depTo_succ, e1, e2]
  have hq : x * n ≤ 15 * 16 := Nat.mul_le_mul (by omega) (by omega)
  have hq2 : x * n + n ≤ n * n := by
   have := Nat.mul_le_mul_right n (show x + 1 ≤ n by omega)
   rw [Nat.add_mul, Nat.one_mul] at this
   exact this
  have hlen := depTo_len w h br ps n hn (x * n + y) (by omega)
  rw [es, ← hw] at ih
  refine Ev.suc ?_
  simp only [impl_DependsOf.l2]
  refine Ev.ite_pos (by omega) ?_
  by_cases hxy : x = y
  ·subst hxy
   refine Ev.ite_pos rfl ?_
   rw [walkR_self w h br ps (x : Int) (ht.2.2.1 x (by omega)), show stepL [] = [] from rfl, List.append_nil] at ih
   exact ih
  ·refine Ev.ite_neg (by omega) (Ev.bind (di_v w h br ps (x : Int) (y : Int) _ (by omega) hbr ht.1 ht.2.1 ⟨by omega, by omega⟩ ⟨by omega, by omega⟩ (by omega)) ih)
theorem di_l1 (w h : Int) (br ps : List Int) (hbr : br.length < 1152921504606846976) (ht : tableOk w h br ps) (n : Nat) (hn : (n : Int) = ncR w h) : ∀ d x : Nat, x + d = n → Ev (fun k => impl_DependsOf.l1 k w h br ps (n : Int) (x : Int) (depTo w h br ps n (x * n))) (depTo w h br ps n (n * n))
 | 0, x, h0 => by
  have e : x = n := by omega
  subst e
  refine Ev.suc ?_
  simp only [impl_DependsOf.l1]
  exact Ev.ite_neg (by omega) (Ev.now _)
 | d + 1, x, h0 => by
  have ih := di_l1 w h br ps hbr ht n hn d (x + 1) (by omega)
  rw [Nat.add_mul, Nat.one_mul] at ih
  have h1 := di_l2 w h br ps hbr ht n hn x (by omega) _ ih n 0 (Nat.zero_add _)
  refine Ev.suc ?_
  simp only [impl_DependsOf.l1]
  exact Ev.ite_pos (by omega) h1
/-- The dependencies of a table, for the program. -/
theorem depOf_i (w h : Int) (br ps : List Int) (hbr : br.length < 1152921504606846976) : ∃ r, dAll r = true ∧ r.length ≤ 4096 ∧ Ev (fun k => impl_DependsOf.f k w h br ps) r ∧ (¬ tableOk w h br ps → r = []) ∧ (tableOk w h br ps → ∀ n : Nat, (n : Int) = ncR w h → ∀ y, y ∈ r ↔ y ∈ depTo w h br ps n (n * n)) := by
 obtain ⟨b, hb, hb2⟩ := TableOk_i w h br ps hbr
 have hnb := ncR_b w h
 unfold impl_DependsOf.f
 by_cases ht : tableOk w h br ps
 ·obtain ⟨n, hn⟩ : ∃ n : Nat, (n : Int) = ncR w h := ⟨(ncR w h).toNat, by omega⟩
  have hq : n * n ≤ 16 * 16 := Nat.mul_le_mul (by omega) (by omega)
  have hlen := depTo_len w h br ps n hn (n * n) (Nat.le_refl _)
  have hin := depTo_in w h br ps n hn (n * n) (Nat.le_refl _)
  obtain ⟨r, hr, h1, h2, h3⟩ := arr_i (depTo w h br ps n (n * n)) (fun x hx => by have := hin x hx; unfold dIn; omega) (by omega)
  refine ⟨r, h1, by omega, ?_, fun q => absurd ht q, fun _ m hm y => by rw [← show n = m by omega, h2 y]⟩
  refine Ev.bind hb (Ev.ite_pos (hb2.2 ht) (Ev.bind ?_ (by rw [hr]; exact Ev.now _)))
  unfold impl_DependsOf.ps
  have h6 := di_l1 w h br ps hbr ht n hn n 0 (Nat.zero_add _)
  rw [Nat.zero_mul] at h6
  refine Ev.bindS (NodeCount_i w h) ?_
  rw [← hn]
  exact h6
 ·exact ⟨[], rfl, by simp, Ev.bind hb (Ev.ite_neg (fun e => ht (hb2.1 e)) (Ev.now _)), fun _ => rfl, fun q => absurd q ht⟩

theorem l03Find_l0 (x : Int) : ∀ (rest pre : List Int), pre.length + rest.length < 1152921504606846976 → Ev (fun k => spec_l03Find.l0 k (pre ++ rest) x (pre.length : Int)) (decide (x ∈ rest))
 | [], pre, _ => by
  refine Ev.suc ?_
  simp only [spec_l03Find.l0]
  exact Ev.ite_neg (by simp) (Ev.val (by simp))
 | y :: rest, pre, hl => by
  simp only [List.length_cons] at hl
  have h1 : (pre.length : Int) < ((pre ++ y :: rest).length : Int) := by simp only [List.length_append, List.length_cons]; omega
  have hw : wrap64 ((pre.length : Int) + 1) = ((pre ++ [y]).length : Int) := by rw [w64 (by omega) (by omega), len_snoc]
  refine Ev.suc ?_
  simp only [spec_l03Find.l0, rd_mid, hw]
  refine Ev.ite_pos h1 (Ev.ite_pos (by omega) (Ev.ite (fun h => Ev.val ?_) (fun h => ?_)))
  ·simp [h]
  ·rw [snoc_app pre y rest]
   refine Ev.eq (l03Find_l0 x rest (pre ++ [y]) (by simp only [List.length_append, List.length_cons, List.length_nil]; omega)) ?_
   rw [decide_eq_decide]
   simp [show ¬ x = y from fun e => h e.symm]
theorem l03Find_s (l : List Int) (x : Int) (h : l.length < 1152921504606846976) : Ev (fun k => spec_l03Find.f k l x) (decide (x ∈ l)) := by
 unfold spec_l03Find.f
 exact l03Find_l0 x l [] (by simpa using h)

theorem l03Has_s (w h : Int) (br : List Int) (c : Int) (hl : br.length < 1152921504606846976) : Ev (fun k => spec_l03Has.f k w h br c) (hasR w h br c) := by
 unfold spec_l03Has.f hasR
 refine Ev.bindS (leads_s w h c) (Ev.ite (fun h1 => ?_) (fun h1 => Ev.val (by simp [h1])))
 exact Ev.bind (l03Find_s br c hl) (Ev.val (by simp [h1]))

theorem l04Walk_l0 (w h : Int) (br ps : List Int) (dst : Int) (hbr : br.length < 1152921504606846976) (hps : (ps.length : Int) = ncR w h * ncR w h) (hd : nodeOk w h dst) : ∀ (d : Nat) (acc : List Int) (x : Int), nodeOk w h x → (acc.length : Int) + d = ncR w h + 1 →
  Ev (fun k => spec_l04Walk.l0 k dst acc (ncR w h) x w h br ps) (walkGo w h br ps dst d acc x)
 | 0, acc, x, hx, hl => by
  refine Ev.suc ?_
  simp only [spec_l04Walk.l0]
  exact Ev.ite_neg (by omega) (Ev.now _)
 | d + 1, acc, x, hx, hl => by
  have hn := ncR_b w h
  have hb := idx_b hn hx hd
  obtain ⟨e1, e2⟩ := idx_w hn hx hd
  have hx15 : 0 ≤ x ∧ x ≤ 15 := ⟨hx.1, by have := hx.2; omega⟩
  have hin1 : 0 ≤ x * ncR w h + dst := by
   have := hd.1
   omega
  have hin2 : x * ncR w h + dst < (ps.length : Int) := by
   rw [hps]
   exact hb.2.2.1
  refine Ev.suc ?_
  simp only [spec_l04Walk.l0, e1, l01In_f, Option.bind_some, decide_eq_true_eq]
  unfold walkGo
  have hlen : (acc.length : Int) ≤ ncR w h := by omega
  have hacc : acc.length < 17592186044416 := by omega
  clear hb e1 e2
  refine Ev.ite_pos hlen (Ev.ite_pos hin1 (Ev.ite_pos hin2 ?_))
  generalize rd ps (x * ncR w h + dst) = p at *
  by_cases h4 : p = 4
  ·refine Ev.ite_pos h4 ?_
   rw [if_pos h4]
   refine Ev.ite (fun h5 => Ev.val ?_) (fun h5 => Ev.val ?_)
   ·rw [if_pos h5]
   ·rw [if_neg h5]
  ·refine Ev.ite_neg h4 ?_
   rw [if_neg h4]
   by_cases hp : 0 ≤ p ∧ p ≤ 3
   ·have e3 : wrap64 (wrap64 (4 * x) + p) = 4 * x + p := by rw [w64 (x := 4 * x) (by omega) (by omega), w64 (by omega) (by omega)]
    simp only [e3]
    refine Ev.ite_pos hp (Ev.bind (l03Has_s w h br (4 * x + p) hbr) (Ev.ite (fun hh => ?_) (fun hh => Ev.val ?_)))
    ·rw [if_pos ⟨hp, hh⟩]
     refine Ev.ite_pos hacc (Ev.bindS (NextNode_s w h x p) ?_)
     exact l04Walk_l0 w h br ps dst hbr hps hd d _ _ (has_next hp hh) (by simp only [List.length_append, List.length_cons, List.length_nil]; omega)
    ·rw [if_neg (fun z => hh z.2)]
   ·refine Ev.ite_neg hp (Ev.val ?_)
    rw [if_neg (fun z => hp z.1)]
theorem l04Walk_s (w h : Int) (br ps : List Int) (x dst : Int) (hbr : br.length < 1152921504606846976) (hps : (ps.length : Int) = ncR w h * ncR w h) (hx : nodeOk w h x) (hd : nodeOk w h dst) :
  Ev (fun k => spec_l04Walk.f k w h br ps x dst) (walkR w h br ps x dst) := by
 unfold spec_l04Walk.f walkR
 have hn := ncR_b w h
 exact Ev.bindS (NodeCount_s w h) (l04Walk_l0 w h br ps dst hbr hps hd _ [] x hx (by simp only [List.length_nil]; omega))

theorem MeshOk_s_l0 (w h : Int) : ∀ (rest pre : List Int) (y : Int), pre.length + rest.length < 1152921504606846976 → Ev (fun k => spec_MeshOk.l0 k (((pre ++ [y])).length : Int) w h ((pre ++ [y]) ++ rest)) (brR w h (some y) rest)
 | [], pre, y, hl => by
  refine Ev.suc ?_
  simp only [spec_MeshOk.l0]
  refine Ev.ite_neg (by simp) ?_
  exact Ev.val (by simp [brR])
 | x :: rest, pre, y, hl => by
  simp only [List.length_cons] at hl
  have hp : (pre ++ [y]).length = pre.length + 1 := by simp
  have h1 : ((pre ++ [y]).length : Int) < ((pre ++ [y] ++ x :: rest).length : Int) := by simp only [List.length_append, List.length_cons, List.length_nil]; omega
  have hw : wrap64 (((pre ++ [y]).length : Int) + 1) = ((pre ++ [y] ++ [x]).length : Int) := by rw [w64 (by omega) (by omega)]; exact (len_snoc _ _).symm
  have hv : wrap64 (((pre ++ [y]).length : Int) - 1) = ((pre ++ [y]).length : Int) - 1 := w64 (by omega) (by omega)
  have e1 : rd (pre ++ [y] ++ x :: rest) (((pre ++ [y]).length : Int) - 1) = y := rd_app_last pre y (x :: rest)
  have e2 : rd (pre ++ [y] ++ x :: rest) ((pre ++ [y]).length : Int) = x := rd_mid _ _ _
  have ih := MeshOk_s_l0 w h rest (pre ++ [y]) x (by omega)
  rw [← snoc_app (pre ++ [y]) x rest] at ih
  refine Ev.suc ?_
  simp only [spec_MeshOk.l0, e1, e2, hw, hv, leads_s, Option.bind_some]
  refine Ev.ite_pos h1 (Ev.ite_pos (by omega) (Ev.ite (fun hlx => ?_) (fun hlx => Ev.val ?_)))
  ·refine Ev.ite_pos (by omega) (Ev.ite_pos (by omega) (Ev.ite_pos (by omega) (Ev.ite (fun hc => Ev.val ?_) (fun hc => Ev.eq ih ?_))))
   ·have hc' : ¬ y < x := by omega
    simp [brR, hc']
   ·have hc' : y < x := by omega
    simp [brR, hlx, hc']
  ·simp [brR, hlx]
theorem MeshOk_s (w h : Int) (br : List Int) (hl : br.length < 1152921504606846976) : Ev (fun k => spec_MeshOk.f k w h br) (meshR w h br) := by
 unfold spec_MeshOk.f meshR
 refine Ev.bindS (GridOk_s w h) (Ev.ite (fun hg => ?_) (fun hg => Ev.val (by simp [show ¬ gOk w h from fun z => hg (decide_eq_true z)])))
 cases br with
 | nil =>
  refine Ev.suc ?_
  simp only [spec_MeshOk.l0]
  refine Ev.ite_neg (by simp) ?_
  exact Ev.val (by simp [brR, of_decide_eq_true hg])
 | cons x rest =>
  simp only [List.length_cons] at hl
  have z := MeshOk_s_l0 w h rest [] x (by simp; omega)
  have hw : wrap64 ((0 : Int) + 1) = ((([] : List Int) ++ [x]).length : Int) := by rw [w64 (by omega) (by omega)]; rfl
  have e2 : rd (x :: rest) 0 = x := rfl
  have h1 : (0 : Int) < ((x :: rest).length : Int) := by simp only [List.length_cons]; omega
  refine Ev.suc ?_
  simp only [spec_MeshOk.l0, e2, hw, leads_s, Option.bind_some]
  refine Ev.ite_pos h1 (Ev.ite_pos (by omega) (Ev.ite (fun hlx => Ev.ite_neg (by omega) (Ev.eq z ?_)) (fun hlx => Ev.val ?_)))
  ·simp [brR, hlx, of_decide_eq_true hg]
  ·simp [brR, hlx]

theorem TableOk_s_l1 (w h : Int) (br ps : List Int) (hbr : br.length < 1152921504606846976) (hps : (ps.length : Int) = ncR w h * ncR w h) (n : Nat) (hn : (n : Int) = ncR w h) (x : Nat) (hx : x < n) (P : Prop)
  (hR : ∃ b, Ev (fun k => spec_TableOk.l0 k (n : Int) ((x + 1 : Nat) : Int) w h br ps) b ∧ (b = true ↔ P)) : ∀ (d y : Nat), y + d = n →
  ∃ b, Ev (fun k => spec_TableOk.l1 k (n : Int) (x : Int) (y : Int) w h br ps) b ∧ (b = true ↔ (y ≤ x → rd ps ((x : Int) * ncR w h + (x : Int)) = 4) ∧ (∀ y' : Nat, y ≤ y' → y' < n → x ≠ y' → walkR w h br ps (x : Int) (y' : Int) ≠ []) ∧ P)
 | 0, y, hd => by
  obtain ⟨b, hb, hb2⟩ := hR
  have hnb := ncR_b w h
  refine ⟨b, Ev.suc ?_, ?_⟩
  ·simp only [spec_TableOk.l1]
   refine Ev.ite_neg (by omega) ?_
   have e : wrap64 ((x : Int) + 1) = ((x + 1 : Nat) : Int) := by rw [w64 (by omega) (by omega)]; omega
   rw [e]
   exact hb
  ·rw [hb2]
   exact ⟨fun hp => ⟨fun hz => absurd hz (by omega), fun y' h1 h2 => absurd h2 (by omega), hp⟩, fun hp => hp.2.2⟩
 | d + 1, y, hd => by
  obtain ⟨b, hb, hb2⟩ := TableOk_s_l1 w h br ps hbr hps n hn x hx P hR d (y + 1) (by omega)
  have hnb := ncR_b w h
  have e : wrap64 ((y : Int) + 1) = ((y + 1 : Nat) : Int) := by rw [w64 (by omega) (by omega)]; omega
  have hlt : (y : Int) < (n : Int) := by omega
  by_cases hxy : x = y
  ·have hxn : 0 ≤ (x : Int) ∧ (x : Int) ≤ ncR w h - 1 := by omega
   have hi := idx_b hnb hxn hxn
   have hi0 : 0 ≤ (x : Int) * ncR w h + (x : Int) := by omega
   have hi1 : (x : Int) * ncR w h + (x : Int) < (ps.length : Int) := by
    rw [hps]
    exact hi.2.2.1
   have ew := (idx_w hnb hxn hxn).1
   have hxy' : (x : Int) = (y : Int) := by omega
   have hle : y ≤ x := by omega
   have hnle : ¬ y + 1 ≤ x := by omega
   have hrest : (∀ y' : Nat, y + 1 ≤ y' → y' < n → x ≠ y' → walkR w h br ps (x : Int) (y' : Int) ≠ []) ↔ (∀ y' : Nat, y ≤ y' → y' < n → x ≠ y' → walkR w h br ps (x : Int) (y' : Int) ≠ []) := by
    clear hi hi0 hi1 ew
    exact ⟨fun hp y' h1 h2 h3 => hp y' (by omega) h2 h3, fun hp y' h1 h2 h3 => hp y' (by omega) h2 h3⟩
   by_cases h4 : rd ps ((x : Int) * ncR w h + (x : Int)) = 4
   ·refine ⟨b, Ev.suc ?_, ?_⟩
    ·rw [hn] at hb hlt ⊢
     simp only [spec_TableOk.l1, ew, e]
     exact Ev.ite_pos hlt (Ev.ite_pos hxy' (Ev.ite_pos hi0 (Ev.ite_pos hi1 (Ev.ite_pos h4 hb))))
    ·rw [hb2, hrest]
     exact ⟨fun hp => ⟨fun _ => h4, hp.2⟩, fun hp => ⟨fun hz => absurd hz hnle, hp.2⟩⟩
   ·refine ⟨false, Ev.suc ?_, ?_⟩
    ·rw [hn] at hlt ⊢
     simp only [spec_TableOk.l1, ew, e]
     exact Ev.ite_pos hlt (Ev.ite_pos hxy' (Ev.ite_pos hi0 (Ev.ite_pos hi1 (Ev.ite_neg h4 (Ev.now _)))))
    ·exact ⟨fun z => absurd z Bool.false_ne_true, fun hp => absurd (hp.1 hle) h4⟩
  ·have hv := l04Walk_s w h br ps (x : Int) (y : Int) hbr hps ⟨by omega, by omega⟩ ⟨by omega, by omega⟩
   have hneq : ¬ (x : Int) = (y : Int) := by omega
   have hd2 : (y ≤ x → rd ps ((x : Int) * ncR w h + (x : Int)) = 4) ↔ (y + 1 ≤ x → rd ps ((x : Int) * ncR w h + (x : Int)) = 4) := ⟨fun hp hz => hp (by omega), fun hp hz => hp (by omega)⟩
   by_cases hw : walkR w h br ps (x : Int) (y : Int) = []
   ·refine ⟨false, Ev.suc ?_, ?_⟩
    ·simp only [spec_TableOk.l1, e]
     refine Ev.ite_pos hlt (Ev.ite_neg hneq (Ev.bind hv (Ev.ite_pos (by simp [hw]) (Ev.now _))))
    ·refine ⟨fun z => absurd z Bool.false_ne_true, fun hp => absurd hw (hp.2.1 y (Nat.le_refl _) (by omega) hxy)⟩
   ·refine ⟨b, Ev.suc ?_, ?_⟩
    ·simp only [spec_TableOk.l1, e]
     refine Ev.ite_pos hlt (Ev.ite_neg hneq (Ev.bind hv (Ev.ite_neg ?_ hb)))
     cases hc : walkR w h br ps (x : Int) (y : Int) with
     | nil => exact absurd hc hw
     | cons a l => simp only [List.length_cons]; omega
    ·rw [hb2, hd2]
     refine ⟨fun hp => ⟨hp.1, fun y' h1 h2 h3 => ?_, hp.2.2⟩, fun hp => ⟨hp.1, fun y' h1 h2 h3 => hp.2.1 y' (by omega) h2 h3, hp.2.2⟩⟩
     by_cases hy : y' = y
     ·rw [hy]
      exact hw
     ·exact hp.2.1 y' (by omega) h2 h3
theorem TableOk_s_l0 (w h : Int) (br ps : List Int) (hbr : br.length < 1152921504606846976) (hps : (ps.length : Int) = ncR w h * ncR w h) (n : Nat) (hn : (n : Int) = ncR w h) : ∀ (d x : Nat), x + d = n →
  ∃ b, Ev (fun k => spec_TableOk.l0 k (n : Int) (x : Int) w h br ps) b ∧ (b = true ↔ (∀ x' : Nat, x ≤ x' → x' < n → rd ps ((x' : Int) * ncR w h + (x' : Int)) = 4) ∧ ∀ x' y' : Nat, x ≤ x' → x' < n → y' < n → x' ≠ y' → walkR w h br ps (x' : Int) (y' : Int) ≠ [])
 | 0, x, hd => by
  refine ⟨true, Ev.suc ?_, ?_⟩
  ·simp only [spec_TableOk.l0]
   exact Ev.ite_neg (by omega) (Ev.now _)
  ·exact ⟨fun _ => ⟨fun x' h1 h2 => absurd h2 (by omega), fun x' y' h1 h2 => absurd h2 (by omega)⟩, fun _ => rfl⟩
 | d + 1, x, hd => by
  obtain ⟨b, hb, hb2⟩ := TableOk_s_l1 w h br ps hbr hps n hn x (by omega) _ (TableOk_s_l0 w h br ps hbr hps n hn d (x + 1) (by omega)) n 0 (by omega)
  refine ⟨b, Ev.suc ?_, ?_⟩
  ·simp only [spec_TableOk.l0]
   exact Ev.ite_pos (by omega) hb
  ·rw [hb2]
   refine ⟨fun hp => ⟨fun x' h1 h2 => ?_, fun x' y' h1 h2 h3 h4 => ?_⟩, fun hp => ⟨fun _ => hp.1 x (Nat.le_refl _) (by omega), fun y' h1 h2 h3 => hp.2 x y' (Nat.le_refl _) (by omega) h2 h3, fun x' h1 h2 => hp.1 x' (by omega) h2, fun x' y' h1 h2 h3 h4 => hp.2 x' y' (by omega) h2 h3 h4⟩⟩
   ·by_cases hx : x' = x
    ·rw [hx]
     exact hp.1 (Nat.zero_le _)
    ·exact hp.2.2.1 x' (by omega) h2
   ·by_cases hx : x' = x
    ·subst hx
     exact hp.2.1 y' (Nat.zero_le _) h3 h4
    ·exact hp.2.2.2 x' y' (by omega) h2 h3 h4
theorem l04Sized_s (w h : Int) (br ps : List Int) (hbr : br.length < 1152921504606846976) : Ev (fun k => spec_l04Sized.f k w h br ps) (decide (meshR w h br = true ∧ (ps.length : Int) = ncR w h * ncR w h)) := by
 have hnb := ncR_b w h
 have hsq : wrap64 (ncR w h * ncR w h) = ncR w h * ncR w h := by
  have h3 : ncR w h * ncR w h ≤ 16 * ncR w h := Int.mul_le_mul_of_nonneg_right hnb.2 hnb.1
  have h4 : 0 ≤ ncR w h * ncR w h := Int.mul_nonneg hnb.1 hnb.1
  generalize ncR w h * ncR w h = q at *
  exact w64 (by omega) (by omega)
 unfold spec_l04Sized.f
 refine Ev.bindS (NodeCount_s w h) (Ev.bind (MeshOk_s w h br hbr) (Ev.ite (fun hm => Ev.val ?_) (fun hm => Ev.val ?_)))
 ·rw [hsq, hm]
  by_cases he : (ps.length : Int) = ncR w h * ncR w h
  ·simp [he]
  ·simp [he]
 ·simp [hm]
theorem TableOk_s (w h : Int) (br ps : List Int) (hbr : br.length < 1152921504606846976) : ∃ b, Ev (fun k => spec_TableOk.f k w h br ps) b ∧ (b = true ↔ tableOk w h br ps) := by
 have hnb := ncR_b w h
 have hs := l04Sized_s w h br ps hbr
 unfold spec_TableOk.f tableOk
 by_cases hm : meshR w h br = true ∧ (ps.length : Int) = ncR w h * ncR w h
 ·obtain ⟨n, hn⟩ : ∃ n : Nat, (n : Int) = ncR w h := ⟨(ncR w h).toNat, by omega⟩
  obtain ⟨b, hb, hb2⟩ := TableOk_s_l0 w h br ps hbr hm.2 n hn n 0 (by omega)
  refine ⟨b, ?_, ?_⟩
  ·refine Ev.bind hs (Ev.ite_pos (decide_eq_true hm) (Ev.bindS (NodeCount_s w h) ?_))
   rw [← hn]
   exact hb
  ·rw [hb2]
   unfold diagOk walksOk
   rw [← hn] at hm ⊢
   exact ⟨fun hp => ⟨hm.1, hm.2, fun x hx => hp.1 x (Nat.zero_le _) (by omega), fun x y hx hy hne => hp.2 x y (Nat.zero_le _) (by omega) (by omega) hne⟩, fun hp => ⟨fun x _ hx => hp.2.2.1 x (by omega), fun x y _ hx hy hne => hp.2.2.2 x y (by omega) (by omega) hne⟩⟩
 ·refine ⟨false, ?_, ⟨fun z => absurd z Bool.false_ne_true, fun hp => absurd ⟨hp.1, hp.2.1⟩ hm⟩⟩
  exact Ev.bind hs (Ev.ite_neg (fun z => hm (of_decide_eq_true z)) (Ev.now _))

theorem less_f (a b c d : Int) : spec_l08Less.f a b c d = some (decide (a < c ∨ (a = c ∧ b < d))) := by
 unfold spec_l08Less.f
 by_cases h1 : a < c
 ·rw [if_pos h1, decide_eq_true (Or.inl h1)]
 ·rw [if_neg h1]
  by_cases h2 : a = c
  ·rw [if_pos h2]
   congr 1
   rw [decide_eq_decide]
   omega
  ·rw [if_neg h2, decide_eq_false (by omega)]

/-- What 'l08Put' makes: the list with one element more, in its place. -/
def PutOf (l : List S98) (d : S98) (r : List S98) : Prop := dAll r = true ∧ (∀ x, x ∈ r ↔ x = d ∨ x ∈ l) ∧ r.length ≤ l.length + 1
theorem put_l0 (l : List S98) (hl : l.length ≤ 1048576) (ha : dAll l = true) (d : S98) (hd : dIn d) : ∀ (i : Nat), i ≤ l.length → (∀ x ∈ l.drop i, dLt d x) → ∃ r, PutOf l d r ∧ Ev (fun k => spec_l08Put.l0 k l (i : Int) d.f0 d.f1) r := by
 have hs := (dAll_iff l).1 ha
 have fin : ∀ i, i ≤ l.length → (∀ x ∈ l.drop i, dLt d x) → (∀ x ∈ l.take i, dLt x d) → PutOf l d ((([] ++ l.take i) ++ [d]) ++ l.drop i) := fun i hi h1 h2 => by
  have e : (([] ++ l.take i) ++ [d]) ++ l.drop i = l.take i ++ d :: l.drop i := by simp
  rw [e]
  refine ⟨(dAll_iff _).2 ⟨fun x hx => ?_, ?_⟩, fun x => ?_, ?_⟩
  ·rcases List.mem_append.1 hx with hx | hx
   ·exact hs.1 x (List.mem_of_mem_take hx)
   ·rcases List.mem_cons.1 hx with rfl | hx
    ·exact hd
    ·exact hs.1 x (List.mem_of_mem_drop hx)
  ·have h3 := hs.2
   rw [← List.take_append_drop i l, List.pairwise_append] at h3
   rw [List.pairwise_append, List.pairwise_cons]
   refine ⟨h3.1, ⟨h1, h3.2.1⟩, fun x hx y hy => ?_⟩
   rcases List.mem_cons.1 hy with rfl | hy
   ·exact h2 x hx
   ·exact h3.2.2 x hx y hy
  ·rw [List.mem_append, List.mem_cons]
   constructor
   ·rintro (hx | rfl | hx)
    ·exact Or.inr (List.mem_of_mem_take hx)
    ·exact Or.inl rfl
    ·exact Or.inr (List.mem_of_mem_drop hx)
   ·rintro (rfl | hx)
    ·exact Or.inr (Or.inl rfl)
    ·rw [← List.take_append_drop i l, List.mem_append] at hx
     rcases hx with hx | hx
     ·exact Or.inl hx
     ·exact Or.inr (Or.inr hx)
  ·simp
   omega
 have hlt : ∀ i : Nat, (l.take i).length ≤ l.length := fun i => by rw [List.length_take]; omega
 have hdr : ∀ i : Nat, (l.drop i).length ≤ l.length := fun i => by rw [List.length_drop]; omega
 intro i
 induction i with
 | zero =>
  intro hi h1
  refine ⟨_, fin 0 hi h1 (fun x hx => by simp at hx), Ev.suc ?_⟩
  simp only [spec_l08Put.l0, Option.bind_some]
  have := hlt 0
  have := hdr 0
  refine Ev.ite_neg (by omega) (Ev.ite_pos (by omega) (Ev.ite_pos (by omega) ?_))
  refine Ev.ite_pos ?_ (Ev.ite_pos ?_ (Ev.ite_pos ?_ (Ev.now _)))
  ·simp
  ·simp
  ·simp; omega
 | succ i ih =>
  intro hi h1
  have hi' : i < l.length := by omega
  have hw : wrap64 (((i + 1 : Nat) : Int) - 1) = (i : Int) := by rw [w64 (by omega) (by omega)]; omega
  have hx := rdD_at l i hi'
  have hdrop : l.drop i = l[i] :: l.drop (i + 1) := List.drop_eq_getElem_cons hi'
  have hmem : l[i] ∈ l := List.getElem_mem hi'
  by_cases q1 : dLt d l[i]
  ·obtain ⟨r, hr, h⟩ := ih (by omega) (fun x hx => by
    rw [hdrop] at hx
    rcases List.mem_cons.1 hx with rfl | hx
    ·exact q1
    ·exact h1 x hx)
   refine ⟨r, hr, Ev.suc ?_⟩
   simp only [spec_l08Put.l0, hw, hx, less_f, Option.bind_some, decide_eq_true_eq]
   exact Ev.ite_pos (by omega) (Ev.ite_pos (by omega) (Ev.ite_pos (by omega) (Ev.ite_pos q1 h)))
  ·by_cases q2 : l[i] = d
   ·refine ⟨l, ⟨ha, fun x => ⟨fun h => Or.inr h, fun h => h.elim (fun e => e ▸ q2 ▸ hmem) id⟩, by omega⟩, Ev.suc ?_⟩
    simp only [spec_l08Put.l0, hw, hx, less_f, Option.bind_some, decide_eq_true_eq]
    refine Ev.ite_pos (by omega) (Ev.ite_pos (by omega) (Ev.ite_pos (by omega) (Ev.ite_neg q1 (Ev.ite_pos ?_ (Ev.now _)))))
    rw [q2]
    simp
   ·have q3 : dLt l[i] d := by
     have : ¬ (l[i].f0 = d.f0 ∧ l[i].f1 = d.f1) := fun e => q2 (by
      have e1 : l[i] = ⟨l[i].f0, l[i].f1⟩ := rfl
      rw [e1, e.1, e.2])
     unfold dLt at *
     omega
    have h2 : ∀ x ∈ l.take (i + 1), dLt x d := fun x hx => by
     rw [← List.take_append_getElem hi', List.mem_append, List.mem_singleton] at hx
     rcases hx with hx | rfl
     ·have h3 := hs.2
      rw [← List.take_append_drop i l, List.pairwise_append] at h3
      exact dLt_trans (h3.2.2 x hx l[i] (by rw [hdrop]; exact List.mem_cons_self)) q3
     ·exact q3
    refine ⟨_, fin (i + 1) hi h1 h2, Ev.suc ?_⟩
    have := hlt (i + 1)
    have := hdr (i + 1)
    simp only [spec_l08Put.l0, hw, hx, less_f, Option.bind_some, decide_eq_true_eq]
    refine Ev.ite_pos (by omega) (Ev.ite_pos (by omega) (Ev.ite_pos (by omega) (Ev.ite_neg q1 (Ev.ite_neg ?_ (Ev.ite_pos (by omega) (Ev.ite_pos (by omega) ?_))))))
    ·intro z
     rw [Bool.and_eq_true, beq_iff_eq, beq_iff_eq] at z
     exact q2 (by
      have e1 : l[i] = ⟨l[i].f0, l[i].f1⟩ := rfl
      rw [e1, z.1, z.2])
    ·refine Ev.ite_pos ?_ (Ev.ite_pos ?_ (Ev.ite_pos ?_ (Ev.now _)))
     ·simp; omega
     ·simp; omega
     ·simp; omega
theorem put_s (l : List S98) (hl : l.length ≤ 1048576) (ha : dAll l = true) (d : S98) (hd : dIn d) : ∃ r, PutOf l d r ∧ Ev (fun k => spec_l08Put.f k l d.f0 d.f1) r := by
 unfold spec_l08Put.f
 exact put_l0 l hl ha d hd l.length (Nat.le_refl _) (fun x hx => by rw [List.drop_length] at hx; cases hx)

def Built (x S : List S98) : Prop := dAll x = true ∧ (∀ y, y ∈ x ↔ y ∈ S) ∧ x.length ≤ S.length
theorem Built.put {x S x' : List S98} {e : S98} (h : Built x S) (hp : PutOf x e x') : Built x' (S ++ [e]) := by
 refine ⟨hp.1, fun y => ?_, ?_⟩
 ·rw [hp.2.1 y, h.2.1 y, List.mem_append, List.mem_singleton, or_comm]
 ·have := h.2.2
  have := hp.2.2
  rw [List.length_append, List.length_singleton]
  omega

theorem ds_l1 (w h : Int) (br ps : List Int) (n i : Int) (ws : List Int) (hl : ws.length ≤ 17) (hin : ∀ x ∈ stepL ws, dIn x) (S : List S98) (hS : S.length ≤ 5000) (G : List S98 → Prop)
  (H : ∀ x', Built x' (S ++ stepL ws) → ∃ r, G r ∧ Ev (fun k => spec_DependsOf.l0 k x' n (wrap64 (i + 1)) w h br ps) r) : ∀ (d t : Nat) (x : List S98), t + d = ws.length - 1 → Built x (S ++ (List.range t).map (stepD ws)) → ∃ r, G r ∧ Ev (fun k => spec_DependsOf.l1 k x n i ws ((t + 1 : Nat) : Int) w h br ps) r
 | 0, t, x, h0, hb => by
  have e : t = ws.length - 1 := by omega
  rw [e] at hb
  obtain ⟨r, hG, hr⟩ := H x hb
  refine ⟨r, hG, Ev.suc ?_⟩
  simp only [spec_DependsOf.l1]
  exact Ev.ite_neg (by omega) hr
 | d + 1, t, x, h0, hb => by
  have hw : wrap64 (((t + 1 : Nat) : Int) - 1) = (t : Int) := by rw [w64 (by omega) (by omega)]; omega
  have hn : wrap64 (((t + 1 : Nat) : Int) + 1) = ((t + 1 + 1 : Nat) : Int) := by rw [w64 (by omega) (by omega)]; omega
  have hm : stepD ws t ∈ stepL ws := List.mem_map.2 ⟨t, List.mem_range.2 (by omega), rfl⟩
  have hxl := hb.2.2
  rw [List.length_append, List.length_map, List.length_range] at hxl
  obtain ⟨x', hp, hput⟩ := put_s x (by omega) hb.1 (stepD ws t) (hin _ hm)
  have hb' := hb.put hp
  rw [List.append_assoc, show (List.range t).map (stepD ws) ++ [stepD ws t] = (List.range (t + 1)).map (stepD ws) by rw [List.range_succ, List.map_append]; rfl] at hb'
  obtain ⟨r, hG, hr⟩ := ds_l1 w h br ps n i ws hl hin S hS G H d (t + 1) x' (by omega) hb'
  refine ⟨r, hG, Ev.suc ?_⟩
  simp only [spec_DependsOf.l1, hw, hn]
  exact Ev.ite_pos (by omega) (Ev.ite_pos (by omega) (Ev.ite_pos (by omega) (Ev.ite_pos (by omega) (Ev.bind hput hr))))
theorem ds_l0 (w h : Int) (br ps : List Int) (hbr : br.length < 1152921504606846976) (ht : tableOk w h br ps) (n : Nat) (hn : (n : Int) = ncR w h) : ∀ (d i : Nat) (x : List S98), i + d = n * n → Built x (depTo w h br ps n i) → ∃ r, Built r (depTo w h br ps n (n * n)) ∧ Ev (fun k => spec_DependsOf.l0 k x (n : Int) (i : Int) w h br ps) r := by
 have hnb := ncR_b w h
 have hq : n * n ≤ 16 * 16 := Nat.mul_le_mul (by omega) (by omega)
 have hm : wrap64 ((n : Int) * (n : Int)) = ((n * n : Nat) : Int) := by
  rw [← Int.natCast_mul, w64 (by omega) (by omega)]
 have hlen := fun m => depTo_len w h br ps n hn m
 have hnode := fun i => @node_of w h n i hn
 generalize hN : n * n = N at hm hq hlen hnode
 intro d
 induction d with
 | zero =>
  intro i x h0 hb
  have e : i = N := by omega
  subst e
  refine ⟨x, hb, Ev.suc ?_⟩
  simp only [spec_DependsOf.l0, hm]
  exact Ev.ite_neg (by omega) (Ev.now _)
 | succ d ih =>
  intro i x h0 hb
  have hw : wrap64 ((i : Int) + 1) = ((i + 1 : Nat) : Int) := by rw [w64 (by omega) (by omega)]; omega
  obtain ⟨n1, n2⟩ := hnode i (by omega)
  have hl := hlen i (by omega)
  have hwb := walkR_b w h br ps ((i / n : Nat) : Int) ((i % n : Nat) : Int) n1
  have hn0 : 0 < n := Nat.pos_of_ne_zero (fun e => by subst e; omega)
  have hiq : i / n ≤ i := Nat.div_le_self i n
  have e1 : wrap64 (Int.tdiv (i : Int) (n : Int)) = ((i / n : Nat) : Int) := by
   rw [show Int.tdiv (i : Int) (n : Int) = ((i / n : Nat) : Int) from rfl]
   clear n1 n2 hwb
   generalize i / n = q at hiq
   exact w64 (by omega) (by omega)
  have e2 : Int.tmod (i : Int) (n : Int) = ((i % n : Nat) : Int) := rfl
  have hin : ∀ x ∈ stepL (walkR w h br ps ((i / n : Nat) : Int) ((i % n : Nat) : Int)), dIn x := fun x hx => by
   have := stepL_in hwb.1 x hx
   unfold dIn
   omega
  have hwk := l04Walk_s w h br ps ((i / n : Nat) : Int) ((i % n : Nat) : Int) hbr ht.2.1 n1 n2
  obtain ⟨r, hG, hr⟩ := ds_l1 w h br ps (n : Int) (i : Int) (walkR w h br ps ((i / n : Nat) : Int) ((i % n : Nat) : Int)) hwb.2 hin (depTo w h br ps n i) (by omega) (fun r => Built r (depTo w h br ps n N)) (fun x' hx' => by
   rw [hw]
   rw [← depTo_succ] at hx'
   exact ih (i + 1) x' (by omega) hx') _ 0 x (Nat.zero_add _) (by rw [List.range_zero, List.map_nil, List.append_nil]; exact hb)
  refine ⟨r, hG, Ev.suc ?_⟩
  simp only [spec_DependsOf.l0, hm, e1, e2]
  exact Ev.ite_pos (by omega) (Ev.ite_neg (by omega) (Ev.bind hwk hr))
/-- The dependencies of a table: one valid list, for the program and for the reference. -/
theorem depOf (w h : Int) (br ps : List Int) (hbr : br.length < 1152921504606846976) : ∃ r, dAll r = true ∧ r.length ≤ 4096 ∧ Ev (fun k => spec_DependsOf.f k w h br ps) r ∧ Ev (fun k => impl_DependsOf.f k w h br ps) r ∧ (¬ tableOk w h br ps → r = []) ∧ (tableOk w h br ps → ∀ n : Nat, (n : Int) = ncR w h → ∀ y, y ∈ r ↔ y ∈ depTo w h br ps n (n * n)) := by
 obtain ⟨r, ha, hl, hi, h0, hm⟩ := depOf_i w h br ps hbr
 refine ⟨r, ha, hl, ?_, hi, h0, hm⟩
 obtain ⟨b, hb, hb2⟩ := TableOk_s w h br ps hbr
 have hnb := ncR_b w h
 unfold spec_DependsOf.f
 by_cases ht : tableOk w h br ps
 ·obtain ⟨n, hn⟩ : ∃ n : Nat, (n : Int) = ncR w h := ⟨(ncR w h).toNat, by omega⟩
  obtain ⟨r', h4, h5⟩ := ds_l0 w h br ps hbr ht n hn (n * n) 0 [] (Nat.zero_add _) ⟨rfl, fun y => Iff.rfl, Nat.le_refl _⟩
  have e : r' = r := dAll_ext _ _ h4.1 ha (fun y => by rw [h4.2.1 y, hm ht n hn y])
  subst e
  refine Ev.bindS rfl (Ev.bind hb (Ev.ite_pos (hb2.2 ht) (Ev.bindS (NodeCount_s w h) ?_)))
  rw [← hn]
  exact h5
 ·rw [h0 ht]
  exact Ev.bindS rfl (Ev.bind hb (Ev.ite_neg (fun e => ht (hb2.1 e)) (Ev.now _)))

theorem compare_f (a b c d : Int) (ha : 0 ≤ a ∧ a ≤ 127) (hb : 0 ≤ b ∧ b ≤ 127) (hc : 0 ≤ c ∧ c ≤ 127) (hd : 0 ≤ d ∧ d ≤ 127) : ∃ r, impl_compareDepends.f a b c d = some r ∧ (r ≥ 0 ↔ ¬ (a < c ∨ (a = c ∧ b < d))) := by
 unfold impl_compareDepends.f
 by_cases h2 : a = c
 ·refine ⟨b - d, ?_, by omega⟩
  rw [if_pos h2, w64 (by omega) (by omega)]
 ·refine ⟨a - c, ?_, by omega⟩
  rw [if_neg h2, w64 (by omega) (by omega)]
theorem DependsOk_i_go : ∀ (rest p : List S98) (y : S98), dIn y → (p ++ [y]).length + rest.length < 1152921504606846976 →
  Ev (fun k => impl_DependsOk.l0 k (p ++ [y] ++ rest) (p ++ [y] ++ rest) ((p ++ [y] ++ rest).length : Int) ((p ++ [y]).length : Int)) (dGo y rest)
 | [], p, y, _, _ => by
  refine Ev.suc ?_
  simp only [impl_DependsOk.l0]
  exact Ev.ite_neg (by simp) (Ev.val rfl)
 | x :: rest, p, y, hyI, hl => by
  simp only [List.length_cons] at hl
  obtain ⟨hp, hy⟩ := prev_rd p y x rest (by omega)
  have hx := rdI_Depend (p ++ [y]) x rest
  have h1 : ((p ++ [y]).length : Int) < ((p ++ [y] ++ x :: rest).length : Int) := by simp only [List.length_append, List.length_cons]; omega
  have h2 : (p.length : Int) < ((p ++ [y] ++ x :: rest).length : Int) := by simp only [List.length_append, List.length_cons]; omega
  have h3 : ((p ++ [y]).length : Int) > 0 := by simp only [List.length_append, List.length_cons]; omega
  have hw : wrap64 (((p ++ [y]).length : Int) + 1) = ((p ++ [y] ++ [x]).length : Int) := by
   have e : ((p ++ [y] ++ [x]).length : Int) = ((p ++ [y]).length : Int) + 1 := len_snoc (p ++ [y]) x
   rw [e]
   exact w64 (by omega) (by omega)
  refine Ev.suc ?_
  simp only [impl_DependsOk.l0, hp, hy, hx, hw, inside_f, Option.bind_some, decide_eq_true_eq]
  rw [dGo_cons]
  refine Ev.ite_pos h1 (Ev.ite_pos (by omega) (Ev.ite_pos h1 (Ev.ite (fun c1 => Ev.ite (fun c2 => Ev.ite_pos h3 (Ev.ite_pos (by omega) (Ev.ite_pos h2 ?_))) (fun c2 => Ev.val ?_)) (fun c1 => Ev.val ?_))))
  ·obtain ⟨r, e, hr⟩ := compare_f y.f0 y.f1 x.f0 x.f1 hyI.1 hyI.2 c1 c2
   have ih := DependsOk_i_go rest (p ++ [y]) x ⟨c1, c2⟩ (by simp only [List.length_append, List.length_cons, List.length_nil] at hl ⊢; omega)
   rw [← snoc_app (p ++ [y]) x rest] at ih
   simp only [e, Option.bind_some]
   refine Ev.ite (fun c3 => Ev.val ?_) (fun c3 => Ev.eq ih ?_)
   ·rw [decide_eq_false (show ¬ dLt y x from hr.1 c3), Bool.false_and, Bool.and_false]
   ·rw [decide_eq_true (show dIn x from ⟨c1, c2⟩), decide_eq_true (show dLt y x from Decidable.not_not.1 (fun z => c3 (hr.2 z))), Bool.true_and, Bool.true_and]
  ·rw [decide_eq_false (show ¬ dIn x from fun z => c2 z.2), Bool.false_and]
  ·rw [decide_eq_false (show ¬ dIn x from fun z => c1 z.1), Bool.false_and]
theorem DependsOk_i (l : List S98) (hl : l.length ≤ 1048576) : Ev (fun k => impl_DependsOk.f k l) (dAll l) := by
 unfold impl_DependsOk.f
 cases l with
 | nil =>
  refine Ev.suc ?_
  simp only [impl_DependsOk.l0]
  exact Ev.ite_neg (by simp) (Ev.val rfl)
 | cons x r =>
  have hx : rd_T98 (x :: r) 0 = x := rfl
  have hw : wrap64 ((0 : Int) + 1) = (([] ++ [x] : List S98).length : Int) := w64 (by omega) (by omega)
  have h1 : (0 : Int) < ((x :: r).length : Int) := by simp only [List.length_cons]; omega
  refine Ev.suc ?_
  simp only [impl_DependsOk.l0, hx, hw, inside_f, Option.bind_some, decide_eq_true_eq]
  rw [dAll_cons]
  refine Ev.ite_pos h1 (Ev.ite_pos (by omega) (Ev.ite_pos h1 (Ev.ite (fun c1 => Ev.ite (fun c2 => Ev.ite_neg (by omega) (Ev.eq (DependsOk_i_go r [] x ⟨c1, c2⟩ (by simp at hl ⊢; omega)) ?_)) (fun c2 => Ev.val ?_)) (fun c1 => Ev.val ?_))))
  ·rw [decide_eq_true (show dIn x from ⟨c1, c2⟩), Bool.true_and]
  ·rw [decide_eq_false (show ¬ dIn x from fun z => c2 z.2), Bool.false_and]
  ·rw [decide_eq_false (show ¬ dIn x from fun z => c1 z.1), Bool.false_and]

theorem DependsOk_s_go : ∀ (rest p : List S98) (y : S98), (p ++ [y]).length + rest.length < 1152921504606846976 →
  Ev (fun k => spec_DependsOk.l0 k (p ++ [y] ++ rest) ((p ++ [y]).length : Int)) (dGo y rest)
 | [], p, y, _ => by
  refine Ev.suc ?_
  simp only [spec_DependsOk.l0]
  exact Ev.ite_neg (by simp) (Ev.val rfl)
 | x :: rest, p, y, hl => by
  simp only [List.length_cons] at hl
  obtain ⟨hp, hy⟩ := prev_rd p y x rest (by omega)
  have hx := rdI_Depend (p ++ [y]) x rest
  have h1 : ((p ++ [y]).length : Int) < ((p ++ [y] ++ x :: rest).length : Int) := by simp only [List.length_append, List.length_cons]; omega
  have h2 : (p.length : Int) < ((p ++ [y] ++ x :: rest).length : Int) := by simp only [List.length_append, List.length_cons]; omega
  have h3 : ((p ++ [y]).length : Int) > 0 := by simp only [List.length_append, List.length_cons]; omega
  have hw : wrap64 (((p ++ [y]).length : Int) + 1) = ((p ++ [y] ++ [x]).length : Int) := by
   have e : ((p ++ [y] ++ [x]).length : Int) = ((p ++ [y]).length : Int) + 1 := len_snoc (p ++ [y]) x
   rw [e]
   exact w64 (by omega) (by omega)
  have ih := DependsOk_s_go rest (p ++ [y]) x (by simp only [List.length_append, List.length_cons, List.length_nil] at hl ⊢; omega)
  rw [← snoc_app (p ++ [y]) x rest] at ih
  refine Ev.suc ?_
  simp only [spec_DependsOk.l0, hp, hy, hx, hw, l01In_f, less_f, Option.bind_some, decide_eq_true_eq]
  rw [dGo_cons]
  refine Ev.ite_pos h1 (Ev.ite_pos (by omega) (Ev.ite (fun c1 => Ev.ite (fun c2 => Ev.ite_pos h3 (Ev.ite_pos (by omega) (Ev.ite_pos h2 (Ev.ite (fun c3 => Ev.eq ih ?_) (fun c3 => Ev.val ?_))))) (fun c2 => Ev.val ?_)) (fun c1 => Ev.val ?_)))
  ·rw [decide_eq_true (show dIn x from ⟨c1, c2⟩), decide_eq_true (show dLt y x from c3), Bool.true_and, Bool.true_and]
  ·rw [decide_eq_false (show ¬ dLt y x from c3), Bool.false_and, Bool.and_false]
  ·rw [decide_eq_false (show ¬ dIn x from fun z => c2 z.2), Bool.false_and]
  ·rw [decide_eq_false (show ¬ dIn x from fun z => c1 z.1), Bool.false_and]
theorem DependsOk_s (l : List S98) (hl : l.length ≤ 1048576) : Ev (fun k => spec_DependsOk.f k l) (dAll l) := by
 unfold spec_DependsOk.f
 cases l with
 | nil =>
  refine Ev.suc ?_
  simp only [spec_DependsOk.l0]
  exact Ev.ite_neg (by simp) (Ev.val rfl)
 | cons x r =>
  have hx : rd_T98 (x :: r) 0 = x := rfl
  have hw : wrap64 ((0 : Int) + 1) = (([] ++ [x] : List S98).length : Int) := w64 (by omega) (by omega)
  have h1 : (0 : Int) < ((x :: r).length : Int) := by simp only [List.length_cons]; omega
  have ih := DependsOk_s_go r [] x (by simp at hl ⊢; omega)
  refine Ev.suc ?_
  simp only [spec_DependsOk.l0, hx, hw, l01In_f, Option.bind_some, decide_eq_true_eq]
  rw [dAll_cons]
  refine Ev.ite_pos h1 (Ev.ite_pos (by omega) (Ev.ite (fun c1 => Ev.ite (fun c2 => Ev.ite_neg (by omega) (Ev.eq ih ?_)) (fun c2 => Ev.val ?_)) (fun c1 => Ev.val ?_)))
  ·rw [decide_eq_true (show dIn x from ⟨c1, c2⟩), Bool.true_and]
  ·rw [decide_eq_false (show ¬ dIn x from fun z => c2 z.2), Bool.false_and]
  ·rw [decide_eq_false (show ¬ dIn x from fun z => c1 z.1), Bool.false_and]

theorem io_l0 (P : List Int) (hP : P.length = 128) : ∀ (d : Nat) (x : Int), 0 ≤ x → 128 - x = (d : Int) → ∃ b : Bool, Ev (fun k => impl_IsOrder.l0 k P x) b ∧ (b = false → ∀ l, Ev (fun k => spec_IsOrder.l0 k l P x) false) ∧ (b = true → ∀ l r, Ev (fun k => spec_IsOrder.l1 k l P 0) r → Ev (fun k => spec_IsOrder.l0 k l P x) r)
 | 0, x, h0, hx => by
  refine ⟨true, Ev.suc ?_, fun e => (by cases e), fun _ l r hr => Ev.suc ?_⟩
  ·simp only [impl_IsOrder.l0]
   exact Ev.ite_neg (by omega) (Ev.now _)
  ·simp only [spec_IsOrder.l0]
   exact Ev.ite_neg (by omega) hr
 | d + 1, x, h0, hx => by
  have hw : wrap64 (x + 1) = x + 1 := w64 (by omega) (by omega)
  obtain ⟨b, hb, hf, ht⟩ := io_l0 P hP d (x + 1) (by omega) (by omega)
  have hc := Contains_i P x (by omega)
  have hs := l03Find_s P x (by omega)
  by_cases q : x ∈ P
  ·refine ⟨b, Ev.suc ?_, fun e l => Ev.suc ?_, fun e l r hr => Ev.suc ?_⟩
   ·simp only [impl_IsOrder.l0, hw]
    exact Ev.ite_pos (by omega) (Ev.bind hc (Ev.ite_pos (decide_eq_true q) hb))
   ·simp only [spec_IsOrder.l0, hw]
    exact Ev.ite_pos (by omega) (Ev.bind hs (Ev.ite_pos (decide_eq_true q) (hf e l)))
   ·simp only [spec_IsOrder.l0, hw]
    exact Ev.ite_pos (by omega) (Ev.bind hs (Ev.ite_pos (decide_eq_true q) (ht e l r hr)))
  ·refine ⟨false, Ev.suc ?_, fun e l => Ev.suc ?_, fun e => (by cases e)⟩
   ·simp only [impl_IsOrder.l0, hw]
    exact Ev.ite_pos (by omega) (Ev.bind hc (Ev.ite_neg (by rw [decide_eq_true_eq]; exact q) (Ev.now _)))
   ·simp only [spec_IsOrder.l0, hw]
    exact Ev.ite_pos (by omega) (Ev.bind hs (Ev.ite_neg (by rw [decide_eq_true_eq]; exact q) (Ev.now _)))
theorem io_l1 (l : List S98) (hd : ∀ x ∈ l, dIn x) (hl : l.length ≤ 1048576) (P : List Int) (hP : P.length = 128) : ∀ (rest pre : List S98), l = pre ++ rest → ∃ i, Ev (fun k => impl_IsOrder.l1 k l P (pre.length : Int)) i ∧ Ev (fun k => spec_IsOrder.l1 k l P (pre.length : Int)) (!(decide (i ≥ 0)))
 | [], pre, e => by
  have hlen := congrArg List.length e
  rw [List.length_append, List.length_nil] at hlen
  refine ⟨-1, Ev.suc ?_, Ev.suc ?_⟩
  ·simp only [impl_IsOrder.l1]
   exact Ev.ite_neg (by omega) (Ev.now _)
  ·simp only [spec_IsOrder.l1]
   exact Ev.ite_neg (by omega) (Ev.val (by decide))
 | x :: rest, pre, e => by
  have hlen := congrArg List.length e
  rw [List.length_append, List.length_cons] at hlen
  have hw : wrap64 ((pre.length : Int) + 1) = ((pre ++ [x]).length : Int) := by rw [w64 (by omega) (by omega), len_snoc]
  have hx := hd x (by rw [e]; exact List.mem_append.2 (Or.inr List.mem_cons_self))
  have hr : rd_T98 l (pre.length : Int) = x := by rw [e]; exact rdI_Depend pre x rest
  by_cases q : rd P x.f0 ≥ rd P x.f1
  ·refine ⟨(pre.length : Int), Ev.suc ?_, Ev.suc ?_⟩
   ·simp only [impl_IsOrder.l1, hr]
    exact Ev.ite_pos (by omega) (Ev.ite_pos (by omega) (Ev.ite_pos (by omega) (Ev.ite_pos (by omega) (Ev.ite_pos (by omega) (Ev.ite_pos (by omega) (Ev.ite_pos q (Ev.now _)))))))
   ·simp only [spec_IsOrder.l1, hr]
    refine Ev.ite_pos (by omega) (Ev.ite_pos (by omega) (Ev.ite_pos (by omega) (Ev.ite_pos (by omega) (Ev.ite_pos (by omega) (Ev.ite_pos (by omega) (Ev.ite_pos q (Ev.val ?_)))))))
    rw [decide_eq_true (show (pre.length : Int) ≥ 0 by omega)]
    rfl
  ·obtain ⟨i, hi, hs⟩ := io_l1 l hd hl P hP rest (pre ++ [x]) (by rw [e]; simp)
   refine ⟨i, Ev.suc ?_, Ev.suc ?_⟩
   ·simp only [impl_IsOrder.l1, hr, hw]
    exact Ev.ite_pos (by omega) (Ev.ite_pos (by omega) (Ev.ite_pos (by omega) (Ev.ite_pos (by omega) (Ev.ite_pos (by omega) (Ev.ite_pos (by omega) (Ev.ite_neg q hi))))))
   ·simp only [spec_IsOrder.l1, hr, hw]
    exact Ev.ite_pos (by omega) (Ev.ite_pos (by omega) (Ev.ite_pos (by omega) (Ev.ite_pos (by omega) (Ev.ite_pos (by omega) (Ev.ite_pos (by omega) (Ev.ite_neg q hs))))))
theorem IsOrder_b (l : List S98) (ha : dAll l = true) (hl : l.length ≤ 1048576) (P : List Int) : ∃ b, Ev (fun k => spec_IsOrder.f k l P) b ∧ Ev (fun k => impl_IsOrder.f k l P) b := by
 have hi := DependsOk_i l hl
 have hs := DependsOk_s l hl
 rw [ha] at hi hs
 unfold spec_IsOrder.f impl_IsOrder.f
 by_cases hP : P.length = 128
 ·have e1 : ((P.length : Int) != 128) = false := bne_eq_false_iff_eq.mpr (by omega)
  obtain ⟨b, hb, hf, ht⟩ := io_l0 P hP 128 0 (by omega) (by omega)
  obtain ⟨i, hi1, hs1⟩ := io_l1 l ((dAll_iff l).1 ha).1 hl P hP l [] rfl
  cases b with
  | true =>
   refine ⟨!(decide (i ≥ 0)), Ev.bind hs (Ev.ite_pos rfl (Ev.suc ?_)), Ev.bind hi (Ev.ite_pos rfl (Ev.ite_pos (by omega) (Ev.bind hb (Ev.ite_pos rfl (Ev.bind hi1 (Ev.now _))))))⟩
   simp only [spec_IsOrder.j0]
   exact Ev.ite_neg (by rw [e1]; decide) (ht rfl l _ hs1)
  | false =>
   refine ⟨false, Ev.bind hs (Ev.ite_pos rfl (Ev.suc ?_)), Ev.bind hi (Ev.ite_pos rfl (Ev.ite_pos (by omega) (Ev.bind hb (Ev.ite_neg (by decide) (Ev.now _)))))⟩
   simp only [spec_IsOrder.j0]
   exact Ev.ite_neg (by rw [e1]; decide) (hf rfl l)
 ·have e1 : ((P.length : Int) != 128) = true := bne_iff_ne.mpr (by omega)
  refine ⟨false, Ev.bind hs (Ev.ite_pos rfl (Ev.suc ?_)), Ev.bind hi (Ev.ite_pos rfl (Ev.ite_neg (by omega) (Ev.now _)))⟩
  simp only [spec_IsOrder.j0]
  exact Ev.ite_pos e1 (Ev.now _)


def hasD (a b : Int) : List S98 → Bool
 | [] => false
 | x :: r => (decide (x.f0 = a) && decide (x.f1 = b)) || hasD a b r
theorem hasD_cons (a b : Int) (x : S98) (r : List S98) : hasD a b (x :: r) = ((decide (x.f0 = a) && decide (x.f1 = b)) || hasD a b r) := rfl
theorem l10Has_l0 (a b : Int) : ∀ (rest pre : List S98), pre.length + rest.length < 1152921504606846976 → Ev (fun k => spec_l10Has.l0 k (pre ++ rest) a b (pre.length : Int)) (hasD a b rest)
 | [], pre, _ => by
  refine Ev.suc ?_
  simp only [spec_l10Has.l0]
  exact Ev.ite_neg (by simp) (Ev.val rfl)
 | x :: rest, pre, hl => by
  simp only [List.length_cons] at hl
  have h1 : (pre.length : Int) < ((pre ++ x :: rest).length : Int) := by simp only [List.length_append, List.length_cons]; omega
  have hw : wrap64 ((pre.length : Int) + 1) = ((pre ++ [x]).length : Int) := by rw [w64 (by omega) (by omega), len_snoc]
  have ih := l10Has_l0 a b rest (pre ++ [x]) (by simp only [List.length_append, List.length_cons, List.length_nil]; omega)
  rw [← snoc_app pre x rest] at ih
  refine Ev.suc ?_
  simp only [spec_l10Has.l0, rdI_Depend, hw]
  rw [hasD_cons]
  refine Ev.ite_pos h1 (Ev.ite_pos (by omega) (Ev.ite (fun c1 => Ev.ite (fun c2 => Ev.val ?_) (fun c2 => Ev.eq ih ?_)) (fun c1 => Ev.eq ih ?_)))
  ·simp [c1, c2]
  ·simp [c2]
  ·simp [c1]
theorem l10Has_s (l : List S98) (a b : Int) (hl : l.length ≤ 1048576) : Ev (fun k => spec_l10Has.f k l a b) (hasD a b l) := by
 unfold spec_l10Has.f
 exact l10Has_l0 a b l [] (by simp; omega)
theorem DIndex_l0 (a b : Int) : ∀ (rest pre : List S98), pre.length + rest.length < 1152921504606846976 → ∃ r, Ev (fun k => impl_Depend_110.l0 k (pre ++ rest) ((pre ++ rest).length : Int) (pre.length : Int) a b) r ∧ (r ≥ 0 ↔ hasD a b rest = true)
 | [], pre, _ => by
  refine ⟨-1, Ev.suc ?_, by simp [hasD]⟩
  simp only [impl_Depend_110.l0]
  exact Ev.ite_neg (by simp) (Ev.now _)
 | x :: rest, pre, hl => by
  simp only [List.length_cons] at hl
  have h1 : (pre.length : Int) < ((pre ++ x :: rest).length : Int) := by simp only [List.length_append, List.length_cons]; omega
  have hw : wrap64 ((pre.length : Int) + 1) = ((pre ++ [x]).length : Int) := by rw [w64 (by omega) (by omega), len_snoc]
  obtain ⟨r, hr, hr2⟩ := DIndex_l0 a b rest (pre ++ [x]) (by simp only [List.length_append, List.length_cons, List.length_nil]; omega)
  rw [← snoc_app pre x rest] at hr
  by_cases h : (a == x.f0 && (b == x.f1)) = true
  ·have h' := h
   rw [Bool.and_eq_true, beq_iff_eq, beq_iff_eq] at h'
   refine ⟨(pre.length : Int), Ev.suc ?_, by rw [hasD_cons, h'.1, h'.2]; simp⟩
   simp only [impl_Depend_110.l0, rdI_Depend]
   exact Ev.ite_pos h1 (Ev.ite_pos (by omega) (Ev.ite_pos h1 (Ev.ite_pos h (Ev.now _))))
  ·have e : (decide (x.f0 = a) && decide (x.f1 = b)) = false := by
    rw [Bool.eq_false_iff]
    intro z
    rw [Bool.and_eq_true, decide_eq_true_eq, decide_eq_true_eq] at z
    exact h (by rw [z.1, z.2]; simp)
   refine ⟨r, Ev.suc ?_, by rw [hasD_cons, e, Bool.false_or]; exact hr2⟩
   simp only [impl_Depend_110.l0, rdI_Depend, hw]
   exact Ev.ite_pos h1 (Ev.ite_pos (by omega) (Ev.ite_pos h1 (Ev.ite_neg h hr)))
theorem DHas_i (l : List S98) (a b : Int) (hl : l.length ≤ 1048576) : Ev (fun k => impl_Depend_78.f k l a b) (hasD a b l) := by
 obtain ⟨r, hr, hr2⟩ := DIndex_l0 a b l [] (by simp; omega)
 unfold impl_Depend_78.f impl_Depend_110.f
 refine Ev.bind hr (Ev.val ?_)
 rw [Bool.eq_iff_iff, decide_eq_true_eq]
 exact hr2
def cyGo (L : List S98) (C : List Int) : Nat → Nat → Bool
 | 0, _ => true
 | d + 1, i => !decide (rd C (i : Int) ∈ C.take i) && (hasD (rd C (i : Int)) (rd C (((i + 1) % C.length : Nat) : Int)) L && cyGo L C d (i + 1))
theorem cyGo_succ (L : List S98) (C : List Int) (d i : Nat) : cyGo L C (d + 1) i = (!decide (rd C (i : Int) ∈ C.take i) && (hasD (rd C (i : Int)) (rd C (((i + 1) % C.length : Nat) : Int)) L && cyGo L C d (i + 1))) := rfl
theorem nxt_mod (n i : Nat) (h : n ≤ 1048576) (hi : i < n) : wrap64 ((i : Int) + 1) = ((i + 1 : Nat) : Int) ∧ Int.tmod ((i + 1 : Nat) : Int) (n : Int) = (((i + 1) % n : Nat) : Int) := by
 refine ⟨?_, ?_⟩
 ·rw [w64 (by omega) (by omega)]
  omega
 ·rw [Int.tmod_eq_emod_of_nonneg (Int.natCast_nonneg _)]
  exact (Int.natCast_emod _ _).symm
theorem IsCycle_s_l0 (L : List S98) (C : List Int) (hL : L.length ≤ 1048576) (hC : C.length ≤ 1048576) : ∀ (d i : Nat), i + d = C.length → Ev (fun k => spec_IsCycle.l0 k L C (i : Int)) (cyGo L C d i && decide ((C.length : Int) > 0))
 | 0, i, h => by
  refine Ev.suc ?_
  simp only [spec_IsCycle.l0]
  exact Ev.ite_neg (by omega) (Ev.val (by simp [cyGo]))
 | d + 1, i, h => by
  have hi : i < C.length := by omega
  obtain ⟨e1, e2⟩ := nxt_mod C.length i hC hi
  have ih := IsCycle_s_l0 L C hL hC d (i + 1) (by omega)
  have f1 := l03Find_s (C.take i) (rd C (i : Int)) (by rw [List.length_take]; omega)
  have f2 := l10Has_s L (rd C (i : Int)) (rd C (((i + 1) % C.length : Nat) : Int)) hL
  have hm : (i + 1) % C.length < C.length := Nat.mod_lt _ (by omega)
  have g0 : (0 : Int) ≤ (((i + 1) % C.length : Nat) : Int) := Int.natCast_nonneg _
  have g1 : (((i + 1) % C.length : Nat) : Int) < (C.length : Int) := Int.ofNat_lt.2 hm
  have p1 : (i : Int) < (C.length : Int) := Int.ofNat_lt.2 hi
  have p2 : (0 : Int) ≤ (i : Int) := Int.natCast_nonneg _
  have p3 : ¬ (C.length : Int) = 0 := by omega
  refine Ev.suc ?_
  simp only [spec_IsCycle.l0, e1, e2, Int.toNat_natCast]
  rw [cyGo_succ]
  generalize decide (rd C (i : Int) ∈ C.take i) = b1 at f1 ⊢
  generalize hasD (rd C (i : Int)) (rd C (((i + 1) % C.length : Nat) : Int)) L = b2 at f2 ⊢
  refine Ev.ite_pos p1 (Ev.ite_pos p2 (Ev.ite_pos (Int.le_of_lt p1) (Ev.bind f1 ?_)))
  cases b1 with
  | true => exact Ev.ite_pos rfl (Ev.val (by simp))
  | false =>
   refine Ev.ite_neg (by simp) (Ev.ite_neg p3 (Ev.ite_pos g0 (Ev.ite_pos g1 (Ev.bind f2 ?_))))
   cases b2 with
   | true => exact Ev.ite_pos rfl (Ev.eq ih (by simp))
   | false => exact Ev.ite_neg (by simp) (Ev.val (by simp))
theorem IsCycle_i_l0 (L : List S98) (C : List Int) (hL : L.length ≤ 1048576) (hC : C.length ≤ 1048576) : ∀ (d i : Nat), i + d = C.length → Ev (fun k => impl_IsCycle.l0 k L C C (C.length : Int) (i : Int)) (cyGo L C d i)
 | 0, i, h => by
  refine Ev.suc ?_
  simp only [impl_IsCycle.l0]
  exact Ev.ite_neg (by omega) (Ev.val rfl)
 | d + 1, i, h => by
  have hi : i < C.length := by omega
  obtain ⟨e1, e2⟩ := nxt_mod C.length i hC hi
  have ih := IsCycle_i_l0 L C hL hC d (i + 1) (by omega)
  have f1 := Contains_i (C.take i) (rd C (i : Int)) (by rw [List.length_take]; omega)
  have f2 := DHas_i L (rd C (i : Int)) (rd C (((i + 1) % C.length : Nat) : Int)) hL
  have hm : (i + 1) % C.length < C.length := Nat.mod_lt _ (by omega)
  have g0 : (0 : Int) ≤ (((i + 1) % C.length : Nat) : Int) := Int.natCast_nonneg _
  have g1 : (((i + 1) % C.length : Nat) : Int) < (C.length : Int) := Int.ofNat_lt.2 hm
  have p1 : (i : Int) < (C.length : Int) := Int.ofNat_lt.2 hi
  have p2 : (0 : Int) ≤ (i : Int) := Int.natCast_nonneg _
  have p3 : ¬ (C.length : Int) = 0 := by omega
  refine Ev.suc ?_
  simp only [impl_IsCycle.l0, e1, e2, Int.toNat_natCast]
  rw [cyGo_succ]
  generalize decide (rd C (i : Int) ∈ C.take i) = b1 at f1 ⊢
  generalize hasD (rd C (i : Int)) (rd C (((i + 1) % C.length : Nat) : Int)) L = b2 at f2 ⊢
  refine Ev.ite_pos p1 (Ev.ite_pos p2 (Ev.ite_pos p1 (Ev.ite_neg p3 (Ev.ite_pos g0 (Ev.ite_pos g1 (Ev.ite_pos (Int.le_of_lt p1) (Ev.bind f1 ?_)))))))
  cases b1 with
  | true => exact Ev.ite_pos rfl (Ev.val (by simp))
  | false =>
   refine Ev.ite_neg (by simp) (Ev.bind f2 ?_)
   cases b2 with
   | true => exact Ev.ite_pos rfl (Ev.eq ih (by simp))
   | false => exact Ev.ite_neg (by simp) (Ev.val (by simp))
theorem IsCycle_s (L : List S98) (C : List Int) (hL : L.length ≤ 1048576) (hC : C.length ≤ 1048576) : Ev (fun k => spec_IsCycle.f k L C) (dAll L && (cyGo L C C.length 0 && decide ((C.length : Int) > 0))) := by
 unfold spec_IsCycle.f
 refine Ev.bind (DependsOk_s L hL) ?_
 cases dAll L with
 | true => exact Ev.ite_pos rfl (Ev.eq (IsCycle_s_l0 L C hL hC C.length 0 (by omega)) (by simp))
 | false => exact Ev.ite_neg (by simp) (Ev.val (by simp))
theorem IsCycle_i (L : List S98) (C : List Int) (hL : L.length ≤ 1048576) (hC : C.length ≤ 1048576) : Ev (fun k => impl_IsCycle.f k L C) (dAll L && (cyGo L C C.length 0 && decide ((C.length : Int) > 0))) := by
 unfold impl_IsCycle.f
 refine Ev.bind (DependsOk_i L hL) ?_
 have j : ∀ b : Bool, Ev (fun k => impl_IsCycle.j0 k L C b) (!b && cyGo L C C.length 0) := by
  intro b
  refine Ev.suc ?_
  simp only [impl_IsCycle.j0]
  cases b with
  | true => exact Ev.ite_pos rfl (Ev.val (by simp))
  | false => exact Ev.ite_neg (by simp) (Ev.eq (IsCycle_i_l0 L C hL hC C.length 0 (by omega)) (by simp))
 cases dAll L with
 | true =>
  refine Ev.ite_pos rfl (Ev.eq (j ((C.length : Int) == 0)) ?_)
  by_cases h : (C.length : Int) = 0
  ·rw [beq_iff_eq.mpr h, decide_eq_false (by omega)]
   simp
  ·rw [beq_eq_false_iff_ne.mpr h, decide_eq_true (by omega)]
   simp
 | false => exact Ev.ite_neg (by simp) (Ev.eq (j true) (by simp))

/-- A walk of n edges. -/
def Wk (adj : Int → Int → Prop) : Nat → Int → Int → Prop
 | 0, a, c => a = c
 | n + 1, a, c => ∃ b, adj a b ∧ Wk adj n b c
theorem Wk.snoc {adj : Int → Int → Prop} {b c : Int} (h : adj b c) : ∀ {n : Nat} {a : Int}, Wk adj n a b → Wk adj (n + 1) a c
 | 0, a, hw => ⟨c, (show a = b from hw) ▸ h, rfl⟩
 | n + 1, a, ⟨x, hx, hw⟩ => ⟨x, hx, Wk.snoc h hw⟩
theorem Wk.append {adj : Int → Int → Prop} {b c : Int} {m : Nat} (h : Wk adj m b c) : ∀ {n : Nat} {a : Int}, Wk adj n a b → Wk adj (n + m) a c
 | 0, a, hw => by
  have e : a = b := hw
  rw [e, Nat.zero_add]
  exact h
 | n + 1, a, ⟨x, hx, hw⟩ => by
  rw [Nat.add_right_comm]
  exact ⟨x, hx, Wk.append h hw⟩
theorem Wk.split {adj : Int → Int → Prop} {c : Int} {m : Nat} : ∀ {n : Nat} {a : Int}, Wk adj (n + m) a c → ∃ b, Wk adj n a b ∧ Wk adj m b c
 | 0, a, h => by
  rw [Nat.zero_add] at h
  exact ⟨a, rfl, h⟩
 | n + 1, a, h => by
  rw [Nat.add_right_comm] at h
  obtain ⟨x, hx, hw⟩ := h
  obtain ⟨b, h1, h2⟩ := Wk.split hw
  exact ⟨b, ⟨x, hx, h1⟩, h2⟩
theorem Wk.mono {adj adj' : Int → Int → Prop} (h : ∀ a b, adj a b → adj' a b) {c : Int} : ∀ {n : Nat} {a : Int}, Wk adj n a c → Wk adj' n a c
 | 0, _, hw => hw
 | _ + 1, _, ⟨x, hx, hw⟩ => ⟨x, h _ _ hx, Wk.mono h hw⟩
/-- The least number of edges, at least one. -/
def PD (adj : Int → Int → Prop) (a b : Int) (m : Nat) : Prop := 0 < m ∧ Wk adj m a b ∧ ∀ j, 0 < j → j < m → ¬ Wk adj j a b
/-- What 'steps between' says: -1 for none. -/
def SB (adj : Int → Int → Prop) (a b v : Int) : Prop := (v = -1 ∧ ∀ n, 0 < n → ¬ Wk adj n a b) ∨ ∃ m : Nat, v = (m : Int) ∧ PD adj a b m
theorem PD.unique {adj : Int → Int → Prop} {a b : Int} {m n : Nat} (h : PD adj a b m) (k : PD adj a b n) : m = n := by
 obtain ⟨h1, h2, h3⟩ := h
 obtain ⟨k1, k2, k3⟩ := k
 rcases Nat.lt_trichotomy m n with h | h | h
 ·exact absurd h2 (k3 m h1 h)
 ·exact h
 ·exact absurd k2 (h3 n k1 h)
theorem SB.unique {adj : Int → Int → Prop} {a b v u : Int} (h : SB adj a b v) (k : SB adj a b u) : v = u := by
 rcases h with ⟨rfl, h⟩ | ⟨m, rfl, h⟩
 ·rcases k with ⟨rfl, _⟩ | ⟨n, rfl, k⟩
  ·rfl
  ·exact absurd k.2.1 (h n k.1)
 ·rcases k with ⟨rfl, k⟩ | ⟨n, rfl, k⟩
  ·exact absurd h.2.1 (k m h.1)
  ·rw [h.unique k]
/-- A least one of what holds somewhere. -/
theorem least {P : Nat → Prop} (n : Nat) : P n → ∃ m, P m ∧ m ≤ n ∧ ∀ j, j < m → ¬ P j := by
 induction n using Nat.strongRecOn with
 | _ n ih =>
  intro h
  by_cases hs : ∃ j, j < n ∧ P j
  ·obtain ⟨j, hj, hp⟩ := hs
   obtain ⟨m, hm, hmn, hl⟩ := ih j hj hp
   exact ⟨m, hm, by omega, hl⟩
  ·exact ⟨n, h, Nat.le_refl _, fun j hj hp => hs ⟨j, hj, hp⟩⟩
theorem PD.of {adj : Int → Int → Prop} {a b : Int} {n : Nat} (h0 : 0 < n) (h : Wk adj n a b) : ∃ m, PD adj a b m ∧ m ≤ n := by
 obtain ⟨m, ⟨h1, h2⟩, hmn, hl⟩ := least (P := fun n => 0 < n ∧ Wk adj n a b) n ⟨h0, h⟩
 exact ⟨m, ⟨h1, h2, fun j hj hjm hw => hl j hjm ⟨hj, hw⟩⟩, hmn⟩

/-- The successors of a channel, in the order of the list. -/
def su (l : List S98) (a : Int) : List Int := (l.filter (fun x => decide (x.f0 = a))).map (fun x => x.f1)
abbrev adjL (l : List S98) (a b : Int) : Prop := ∃ x, x ∈ l ∧ x.f0 = a ∧ x.f1 = b
theorem su_mem (l : List S98) (a b : Int) : b ∈ su l a ↔ adjL l a b := by
 unfold su adjL
 rw [List.mem_map]
 constructor
 ·rintro ⟨x, hx, rfl⟩
  rw [List.mem_filter, decide_eq_true_eq] at hx
  exact ⟨x, hx.1, hx.2, rfl⟩
 ·rintro ⟨x, hx, rfl, rfl⟩
  exact ⟨x, List.mem_filter.2 ⟨hx, decide_eq_true rfl⟩, rfl⟩
theorem su_cons_pos (x : S98) (r : List S98) (a : Int) (h : x.f0 = a) : su (x :: r) a = x.f1 :: su r a := by
 unfold su
 rw [List.filter_cons, if_pos (decide_eq_true h), List.map_cons]
theorem su_cons_neg (x : S98) (r : List S98) (a : Int) (h : ¬ x.f0 = a) : su (x :: r) a = su r a := by
 unfold su
 rw [List.filter_cons, if_neg (by rw [decide_eq_true_eq]; exact h)]
theorem su_len (l : List S98) (a : Int) : (su l a).length ≤ l.length := by
 unfold su
 rw [List.length_map]
 exact List.length_filter_le _ _
theorem dGo_in : ∀ (r : List S98) (y : S98), dGo y r = true → ∀ x ∈ r, dIn x
 | [], _, _, x, hx => by cases hx
 | z :: r, y, h, x, hx => by
  rw [dGo_cons, Bool.and_eq_true, Bool.and_eq_true] at h
  rcases List.mem_cons.1 hx with rfl | hx
  ·exact of_decide_eq_true h.1
  ·exact dGo_in r z h.2.2 x hx
theorem dAll_in : ∀ (l : List S98), dAll l = true → ∀ x ∈ l, dIn x
 | [], _, x, hx => by cases hx
 | z :: r, h, x, hx => by
  rw [dAll_cons, Bool.and_eq_true] at h
  rcases List.mem_cons.1 hx with rfl | hx
  ·exact of_decide_eq_true h.1
  ·exact dGo_in r z h.2 x hx
theorem adjL_in {l : List S98} (hd : ∀ x ∈ l, dIn x) {a b : Int} (h : adjL l a b) : (0 ≤ a ∧ a ≤ 127) ∧ (0 ≤ b ∧ b ≤ 127) := by
 obtain ⟨x, hx, rfl, rfl⟩ := h
 exact hd x hx
theorem rd_eq (l : List Int) (i : Int) : rd l i = l.getD i.toNat 0 := rfl
theorem rd_setI (D : List Int) (v n u : Int) (h0 : 0 ≤ v) (h1 : v < (D.length : Int)) (hu : 0 ≤ u) : rd (D.set v.toNat n) u = if u = v then n else rd D u := by
 rw [rd_eq, rd_eq, List.getD_eq_getElem?_getD, List.getD_eq_getElem?_getD, List.getElem?_set]
 by_cases h : u = v
 ·subst h
  rw [if_pos rfl, if_pos (by omega), if_pos rfl]
  rfl
 ·rw [if_neg h, if_neg (by omega)]
theorem count_setI (D : List Int) (v n b : Int) (h0 : 0 ≤ v) (h1 : v < (D.length : Int)) (he : rd D v = b) (hn : n ≠ b) : (D.set v.toNat n).count b + 1 = D.count b := by
 have hl : v.toNat < D.length := by omega
 have e : D[v.toNat] = b := by
  rw [rd_eq, List.getD_eq_getElem?_getD, List.getElem?_eq_getElem hl] at he
  exact he
 have hp : 0 < D.count b := List.count_pos_iff.2 (e ▸ List.getElem_mem hl)
 rw [List.count_set hl, e, if_pos (by simp), if_neg (by simpa using hn)]
 omega

theorem Wk.cons {adj : Int → Int → Prop} {n : Nat} {a b c : Int} (h : adj a b) (w : Wk adj n b c) : Wk adj (n + 1) a c := ⟨b, h, w⟩
/-- How far a goal is: the least number of edges, -1 for none. -/
def DT (adj : Int → Int → Prop) (goal v x : Int) : Prop := (x = -1 ∧ ∀ n, ¬ Wk adj n v goal) ∨ ∃ m : Nat, x = (m : Int) ∧ Wk adj m v goal ∧ ∀ j, j < m → ¬ Wk adj j v goal
/-- How far a channel is: the least positive number of edges, 0 for none. -/
def D0 (adj : Int → Int → Prop) (a b x : Int) : Prop := (x = 0 ∧ ∀ n, 0 < n → ¬ Wk adj n a b) ∨ ∃ m : Nat, x = (m : Int) ∧ PD adj a b m
theorem DT.ge {adj : Int → Int → Prop} {a b x : Int} (h : DT adj a b x) : -1 ≤ x := by
 rcases h with ⟨rfl, _⟩ | ⟨m, rfl, _⟩ <;> omega
theorem DT.walk {adj : Int → Int → Prop} {g v x : Int} (h : DT adj g v x) (h0 : 0 ≤ x) : Wk adj x.toNat v g := by
 rcases h with ⟨rfl, _⟩ | ⟨m, rfl, h, _⟩
 ·omega
 ·exact h
theorem DT.le {adj : Int → Int → Prop} {g v x : Int} (h : DT adj g v x) {n : Nat} (hw : Wk adj n v g) : 0 ≤ x ∧ x ≤ (n : Int) := by
 rcases h with ⟨_, h⟩ | ⟨m, rfl, _, h⟩
 ·exact absurd hw (h n)
 ·refine ⟨by omega, ?_⟩
  rcases Nat.lt_or_ge n m with hl | hl
  ·exact absurd hw (h n hl)
  ·omega
theorem D0.walk {adj : Int → Int → Prop} {a b x : Int} (h : D0 adj a b x) (h0 : 0 < x) : Wk adj x.toNat a b := by
 rcases h with ⟨rfl, _⟩ | ⟨m, rfl, h⟩
 ·omega
 ·exact h.2.1
theorem D0.le {adj : Int → Int → Prop} {a b x : Int} (h : D0 adj a b x) {n : Nat} (hn : 0 < n) (hw : Wk adj n a b) : 0 < x ∧ x ≤ (n : Int) := by
 rcases h with ⟨_, h⟩ | ⟨m, rfl, h⟩
 ·exact absurd hw (h n hn)
 ·refine ⟨by have := h.1; omega, ?_⟩
  rcases Nat.lt_or_ge n m with hl | hl
  ·exact absurd hw (h.2.2 n hn hl)
  ·omega
theorem DT.self {adj : Int → Int → Prop} {g x : Int} (h : DT adj g g x) : x = 0 := by
 have := h.le (n := 0) rfl
 omega
theorem DT.zero {adj : Int → Int → Prop} {g v : Int} (h : DT adj g v 0) : v = g := h.walk (by omega)
/-- The edges out of channels not below a least one. -/
def adjF (adj : Int → Int → Prop) (s : Int) (a b : Int) : Prop := adj a b ∧ s ≤ a
theorem adjF.lift {adj : Int → Int → Prop} {s : Int} {n : Nat} {a b : Int} (h : Wk (adjF adj s) n a b) : Wk adj n a b := Wk.mono (fun _ _ h => h.1) h
/-- A shortest closed walk: its length is g, its first channel the least that any such one has. -/
structure Girth (adj : Int → Int → Prop) (s : Int) (g : Nat) : Prop where
 pos : 0 < g
 wk : Wk adj g s s
 least : ∀ c n, 0 < n → Wk adj n c c → g ≤ n
 first : ∀ c n, c < s → 0 < n → Wk adj n c c → g < n
theorem Girth.on {adj : Int → Int → Prop} {s v : Int} {g p q : Nat} (h : Girth adj s g) (h1 : Wk adj p s v) (h2 : Wk adj q v s) (e : p + q = g) : s ≤ v := by
 rcases Int.lt_or_le v s with hl | hl
 ·have := h.first v (q + p) hl (by have := h.pos; omega) (Wk.append h1 h2)
  omega
 ·exact hl
theorem Girth.restrict {adj : Int → Int → Prop} {s : Int} {g : Nat} (h : Girth adj s g) : ∀ (q p : Nat) (v : Int), Wk adj p s v → Wk adj q v s → p + q = g → Wk (adjF adj s) q v s
 | 0, _, _, _, h2, _ => h2
 | q + 1, p, v, h1, ⟨b, hb, h2⟩, e => ⟨b, ⟨hb, h.on h1 (Wk.cons hb h2) e⟩, h.restrict q (p + 1) b (Wk.snoc hb h1) h2 (by omega)⟩
theorem Girth.ge {adj : Int → Int → Prop} {s a c x : Int} {g i n : Nat} (h : Girth adj s g) (e : i + n + 1 = g) (h1 : Wk adj i s a) (hc : adj a c) (hx : DT (adjF adj s) s c x) (h0 : 0 ≤ x) : (n : Int) ≤ x := by
 have hw := adjF.lift (hx.walk h0)
 have := h.least s (i + (x.toNat + 1)) (by omega) (Wk.append (Wk.cons hc hw) h1)
 omega
theorem Girth.same {adj : Int → Int → Prop} {s a c x y : Int} {g i n : Nat} (h : Girth adj s g) (e : i + n + 1 = g) (h1 : Wk adj i s a) (hc : adj a c) (hx : DT (adjF adj s) s c x) (hy : D0 adj c s y) :
  (s ≤ c ∧ x = (n : Int)) ↔ ((n = 0 ∧ c = s) ∨ (0 < n ∧ c ≠ s ∧ y = (n : Int))) := by
 constructor
 ·rintro ⟨h2, rfl⟩
  rcases Nat.eq_zero_or_pos n with h0 | h0
  ·subst h0
   exact Or.inl ⟨rfl, hx.zero⟩
  ·have hw := adjF.lift (hx.walk (by omega))
   rw [Int.toNat_natCast] at hw
   obtain ⟨y0, y1⟩ := hy.le h0 hw
   have hw2 := hy.walk y0
   have := h.least s (i + (y.toNat + 1)) (by omega) (Wk.append (Wk.cons hc hw2) h1)
   refine Or.inr ⟨h0, fun hcs => ?_, by omega⟩
   subst hcs
   have := hx.self
   omega
 ·rintro (⟨rfl, rfl⟩ | ⟨h0, hne, rfl⟩)
  ·exact ⟨Int.le_refl _, by rw [hx.self]; rfl⟩
  ·have hw := hy.walk (by omega)
   rw [Int.toNat_natCast] at hw
   have h3 := Wk.snoc hc h1
   have := hx.le (h.restrict n (i + 1) c h3 hw (by omega))
   have := h.ge e h1 hc hx (by omega)
   exact ⟨h.on h3 hw (by omega), by omega⟩
theorem Girth.near {adj : Int → Int → Prop} {s a : Int} {g i n : Nat} (h : Girth adj s g) (e : i + n + 1 = g) (h1 : Wk adj i s a) (h2 : Wk adj (n + 1) a s) :
  ∃ c, adj a c ∧ s ≤ c ∧ Wk adj n c s ∧ Wk adj (i + 1) s c ∧ ∀ x, DT (adjF adj s) s c x → x = (n : Int) := by
 obtain ⟨c, hc, hw⟩ := h2
 have h3 := Wk.snoc hc h1
 refine ⟨c, hc, h.on h3 hw (by omega), hw, h3, fun x hx => ?_⟩
 have := hx.le (h.restrict n (i + 1) c h3 hw (by omega))
 have := h.ge e h1 hc hx (by omega)
 omega
/-- The channels of a shortest cycle, each the first successor that is near enough. -/
def pathF (su : Int → List Int) (ok : Nat → Int → Bool) : Nat → Int → List Int
 | 0, _ => []
 | n + 1, a => a :: (match (su a).find? (ok n) with
  | some c => pathF su ok n c
  | none => [])
theorem pathF_succ (su : Int → List Int) (ok : Nat → Int → Bool) (n : Nat) (a : Int) : pathF su ok (n + 1) a = a :: (match (su a).find? (ok n) with
  | some c => pathF su ok n c
  | none => []) := rfl
theorem pathF_some {su : Int → List Int} {ok : Nat → Int → Bool} {n : Nat} {a c : Int} (h : (su a).find? (ok n) = some c) : pathF su ok (n + 1) a = a :: pathF su ok n c := by
 rw [pathF_succ, h]
theorem find_some {α : Type} {p : α → Bool} {l : List α} (h : ∃ x, x ∈ l ∧ p x = true) : ∃ x, l.find? p = some x ∧ x ∈ l ∧ p x = true := by
 cases e : l.find? p with
 | none =>
  obtain ⟨x, hx, hp⟩ := h
  exact absurd hp (List.find?_eq_none.1 e x hx)
 | some x => exact ⟨x, rfl, List.mem_of_find?_eq_some e, List.find?_some e⟩
theorem find_congr {α : Type} {p q : α → Bool} : ∀ {l : List α}, (∀ x ∈ l, p x = q x) → l.find? p = l.find? q
 | [], _ => rfl
 | x :: l, h => by
  rw [List.find?_cons, List.find?_cons, h x List.mem_cons_self, find_congr (fun y hy => h y (List.mem_cons_of_mem _ hy))]

theorem filter_ne_len (a : Int) : ∀ (l : List Int), l.Nodup → l.length ≤ (l.filter (fun x => decide (x ≠ a))).length + 1
 | [], _ => by simp
 | x :: l, h => by
  rw [List.nodup_cons] at h
  have ih := filter_ne_len a l h.2
  by_cases hx : x = a
  ·subst hx
   have e : (l.filter (fun y => decide (y ≠ x))) = l := List.filter_eq_self.2 (fun y hy => decide_eq_true (fun z => h.1 (z ▸ hy)))
   rw [List.filter_cons_of_neg (by simp), e, List.length_cons]
   omega
  ·have e : decide (x ≠ a) = true := decide_eq_true hx
   rw [List.filter_cons, if_pos e, List.length_cons, List.length_cons]
   omega
theorem nodup_len : ∀ (n : Nat) (l : List Int), l.Nodup → (∀ x ∈ l, 0 ≤ x ∧ x < (n : Int)) → l.length ≤ n
 | 0, l, _, h => by
  cases l with
  | nil => simp
  | cons x l => have := h x List.mem_cons_self; omega
 | n + 1, l, hd, h => by
  have h1 := filter_ne_len (n : Int) l hd
  have h2 := nodup_len n (l.filter (fun x => decide (x ≠ (n : Int)))) (List.Pairwise.filter _ hd) (fun x hx => by
   rw [List.mem_filter, decide_eq_true_eq] at hx
   have := h x hx.1
   omega)
  omega
/-- The channels along a walk backwards, newest first. -/
inductive Back (adj : Int → Int → Prop) : List Int → Prop
 | one (a : Int) : Back adj [a]
 | more {a b : Int} {l : List Int} (h : adj a b) (t : Back adj (b :: l)) : Back adj (a :: b :: l)
theorem Back.wk {adj : Int → Int → Prop} {l : List Int} (h : Back adj l) : ∀ {a : Int} {r : List Int}, l = a :: r → ∀ x ∈ r, ∃ n, 0 < n ∧ Wk adj n a x := by
 induction h with
 | one a =>
  intro b r e x hx
  cases e
  cases hx
 | more h t ih =>
  intro c r e x hx
  cases e
  rcases List.mem_cons.1 hx with rfl | hx
  ·exact ⟨1, by omega, Wk.cons h rfl⟩
  ·obtain ⟨n, hn, hw⟩ := ih rfl x hx
   exact ⟨n + 1, by omega, Wk.cons h hw⟩
theorem Back.nodup {adj : Int → Int → Prop} (hc : ∀ a n, 0 < n → ¬ Wk adj n a a) {l : List Int} (h : Back adj l) : l.Nodup := by
 induction h with
 | one a => exact List.nodup_cons.2 ⟨List.not_mem_nil, List.nodup_nil⟩
 | @more a b l h t ih =>
  refine List.nodup_cons.2 ⟨fun hm => ?_, ih⟩
  obtain ⟨n, hn, hw⟩ := (Back.more h t).wk rfl a hm
  exact hc a n hn hw
theorem back_long {adj : Int → Int → Prop} {U : Int → Prop} (hp : ∀ c, U c → ∃ b, adj b c ∧ U b) {c : Int} (h : U c) : ∀ n : Nat, ∃ a l, Back adj (a :: l) ∧ l.length = n ∧ U a ∧ ∀ x ∈ a :: l, U x
 | 0 => ⟨c, [], .one c, rfl, h, fun x hx => by rw [List.mem_singleton.1 hx]; exact h⟩
 | n + 1 => by
  obtain ⟨a, l, hb, hl, hu, ha⟩ := back_long hp h n
  obtain ⟨b, hab, hub⟩ := hp a hu
  exact ⟨b, a :: l, .more hab hb, by simp [hl], hub, fun x hx => (List.mem_cons.1 hx).elim (fun e => e ▸ hub) (ha x)⟩
/-- Where each channel of a set has a predecessor in it, there is a closed walk. -/
theorem closed_of_preds {adj : Int → Int → Prop} {U : Int → Prop} (hr : ∀ c, U c → 0 ≤ c ∧ c ≤ 127) (hp : ∀ c, U c → ∃ b, adj b c ∧ U b) {c : Int} (h : U c) : ∃ a n, 0 < n ∧ Wk adj n a a := by
 refine Classical.byContradiction fun hn => ?_
 have hc : ∀ a n, 0 < n → ¬ Wk adj n a a := fun a n h0 hw => hn ⟨a, n, h0, hw⟩
 obtain ⟨a, l, hb, hl, _, hu⟩ := back_long hp h 128
 have h1 := nodup_len 128 (a :: l) (hb.nodup hc) (fun x hx => by have := hr x (hu x hx); omega)
 rw [List.length_cons] at h1
 omega

/-- A channel that is not ranked, and to which no element leads from one that is not ranked. -/
def freeC (l : List S98) (R : List Int) (c : Int) : Prop := rd R c < 0 ∧ ∀ x ∈ l, x.f1 = c → ¬ rd R x.f0 < 0
/-- The least such channel, -1 where there is none. -/
def Pick (l : List S98) (R : List Int) (b : Int) : Prop := (b = -1 ∧ ∀ c, 0 ≤ c → c ≤ 127 → ¬ freeC l R c) ∨ ((0 ≤ b ∧ b ≤ 127) ∧ freeC l R b ∧ ∀ c, 0 ≤ c → c < b → ¬ freeC l R c)
theorem Pick.unique {l : List S98} {R : List Int} {a b : Int} (h : Pick l R a) (k : Pick l R b) : a = b := by
 rcases h with ⟨rfl, h⟩ | ⟨h1, h2, h3⟩
 ·rcases k with ⟨rfl, _⟩ | ⟨k1, k2, _⟩
  ·rfl
  ·exact absurd k2 (h b k1.1 k1.2)
 ·rcases k with ⟨rfl, k⟩ | ⟨k1, k2, k3⟩
  ·exact absurd h2 (k a h1.1 h1.2)
  ·rcases Int.lt_trichotomy a b with e | e | e
   ·exact absurd h2 (k3 a h1.1 e)
   ·exact e
   ·exact absurd k2 (h3 b k1.1 e)
theorem pick_ex (l : List S98) (R : List Int) : ∃ b, Pick l R b := by
 by_cases h : ∃ n : Nat, n ≤ 127 ∧ freeC l R (n : Int)
 ·obtain ⟨n, hn⟩ := h
  obtain ⟨m, hm, hmn, hl⟩ := least (P := fun n => n ≤ 127 ∧ freeC l R (n : Int)) n hn
  refine ⟨(m : Int), Or.inr ⟨⟨by omega, by omega⟩, hm.2, fun c c0 c1 hc => hl c.toNat (by omega) ⟨by omega, by rw [show ((c.toNat : Nat) : Int) = c by omega]; exact hc⟩⟩⟩
 ·exact ⟨-1, Or.inl ⟨rfl, fun c c0 c1 hc => h ⟨c.toNat, by omega, by rw [show ((c.toNat : Nat) : Int) = c by omega]; exact hc⟩⟩⟩
/-- The ranks, given one by one. -/
inductive Ord (l : List S98) : Nat → List Int → List Int × Bool → Prop
 | done (R : List Int) : Ord l 0 R (R, true)
 | fail {d : Nat} {R : List Int} (h : Pick l R (-1)) : Ord l (d + 1) R ([], false)
 | step {d : Nat} {R : List Int} {b : Int} {r : List Int × Bool} (h : Pick l R b) (h0 : 0 ≤ b) (t : Ord l d (R.set b.toNat (127 - (d : Int))) r) : Ord l (d + 1) R r
theorem Ord.unique {l : List S98} {d : Nat} {R : List Int} {r s : List Int × Bool} (h : Ord l d R r) : Ord l d R s → r = s := by
 induction h with
 | done R => intro k; cases k; rfl
 | fail h =>
  intro k
  cases k with
  | fail k => rfl
  | step k k0 t => have := h.unique k; omega
 | step h h0 t ih =>
  intro k
  cases k with
  | fail k => have := h.unique k; omega
  | step k k0 t' =>
   have e := h.unique k
   subst e
   exact ih t'
/-- What holds when r ranks are given. -/
structure RI (l : List S98) (r : Int) (R : List Int) : Prop where
 len : R.length = 128
 val : ∀ c, 0 ≤ c → c ≤ 127 → -1 ≤ rd R c ∧ rd R c < r
 rise : ∀ x ∈ l, 0 ≤ rd R x.f1 → 0 ≤ rd R x.f0 ∧ rd R x.f0 < rd R x.f1
 all : ∀ q, 0 ≤ q → q < r → ∃ c, (0 ≤ c ∧ c ≤ 127) ∧ rd R c = q
 cnt : (R.count (-1) : Int) + r = 128
theorem RI.put {l : List S98} {r b : Int} {R : List Int} (hd : ∀ x ∈ l, dIn x) (h : RI l r R) (hb : 0 ≤ b ∧ b ≤ 127) (hf : freeC l R b) (h0 : 0 ≤ r) : RI l (r + 1) (R.set b.toNat r) := by
 have hl := h.len
 have hG : ∀ u, 0 ≤ u → rd (R.set b.toNat r) u = if u = b then r else rd R u := fun u hu => rd_setI R b r u hb.1 (by omega) hu
 have hb1 : rd R b = -1 := by have := (h.val b hb.1 hb.2).1; have := hf.1; omega
 refine ⟨by rw [List.length_set]; exact hl, fun c c0 c1 => ?_, fun x hx hx1 => ?_, fun q q0 q1 => ?_, ?_⟩
 ·rw [hG c c0]
  split
  ·omega
  ·have := h.val c c0 c1
   omega
 ·have hxr := hd x hx
  rw [hG x.f1 hxr.2.1] at hx1 ⊢
  rw [hG x.f0 hxr.1.1]
  by_cases e1 : x.f1 = b
  ·rw [if_pos e1]
   have hn := hf.2 x hx e1
   have hv := h.val x.f0 hxr.1.1 hxr.1.2
   rw [if_neg (by intro e; rw [e] at hn; omega)]
   omega
  ·rw [if_neg e1] at hx1 ⊢
   have := h.rise x hx hx1
   have hv := h.val x.f0 hxr.1.1 hxr.1.2
   rw [if_neg (by intro e; rw [e] at this; omega)]
   exact this
 ·by_cases e : q = r
  ·refine ⟨b, hb, ?_⟩
   rw [hG b hb.1, if_pos rfl, e]
  ·obtain ⟨c, hc, e2⟩ := h.all q q0 (by omega)
   refine ⟨c, hc, ?_⟩
   rw [hG c hc.1, if_neg (by intro e3; rw [e3] at e2; omega)]
   exact e2
 ·have := count_setI R b r (-1) hb.1 (by omega) hb1 (by omega)
  have := h.cnt
  omega
theorem rd_repl (c : Int) (h0 : 0 ≤ c) (h1 : c ≤ 127) : rd (List.replicate 128 (-1 : Int)) c = -1 := by
 rw [rd_eq, List.getD_eq_getElem?_getD, List.getElem?_replicate, if_pos (by omega)]
 rfl
theorem RI.start {l : List S98} (hd : ∀ x ∈ l, dIn x) : RI l 0 (List.replicate 128 (-1)) := by
 refine ⟨by simp, fun c c0 c1 => ?_, fun x hx hx1 => ?_, fun q q0 q1 => by omega, ?_⟩
 ·rw [rd_repl c c0 c1]; omega
 ·have hxr := hd x hx
  rw [rd_repl x.f1 hxr.2.1 hxr.2.2] at hx1
  omega
 ·rw [List.count_replicate_self]; omega
/-- What comes of it: an order, or a closed walk. -/
theorem Ord.good {l : List S98} (hd : ∀ x ∈ l, dIn x) {d : Nat} {R : List Int} {r : List Int × Bool} (h : Ord l d R r) : RI l (128 - (d : Int)) R → d ≤ 128 → (r.2 = true ∧ RI l 128 r.1) ∨ (r = ([], false) ∧ ∃ a n, 0 < n ∧ Wk (adjL l) n a a) := by
 induction h with
 | done R =>
  intro hi _
  exact Or.inl ⟨rfl, by simpa using hi⟩
 | @fail d R h =>
  intro hi hdl
  refine Or.inr ⟨rfl, ?_⟩
  rcases h with ⟨_, h⟩ | ⟨h, _⟩
  ·have hc : 0 < R.count (-1) := by have := hi.cnt; omega
   have hm := List.count_pos_iff.1 hc
   obtain ⟨i, hi2, e⟩ := List.getElem_of_mem hm
   have hl := hi.len
   have hri : rd R (i : Int) = -1 := by
    rw [rd_eq, Int.toNat_natCast, List.getD_eq_getElem?_getD, List.getElem?_eq_getElem hi2, e]
    rfl
   refine closed_of_preds (adj := adjL l) (U := fun c => (0 ≤ c ∧ c ≤ 127) ∧ rd R c < 0) (fun c hc => hc.1) (fun c hc => ?_) (c := (i : Int)) ⟨⟨by omega, by omega⟩, by omega⟩
   have hn := h c hc.1.1 hc.1.2
   refine Classical.byContradiction fun hno => hn ⟨hc.2, fun x hx e hx0 => hno ⟨x.f0, ⟨x, hx, rfl, e⟩, (hd x hx).1, hx0⟩⟩
  ·omega
 | @step d R b r h h0 t ih =>
  intro hi hdl
  rcases h with ⟨rfl, _⟩ | ⟨h1, h2, _⟩
  ·omega
  ·have e1 : (127 : Int) - (d : Int) = 128 - ((d + 1 : Nat) : Int) := by omega
   have := hi.put hd h1 h2 (by omega)
   rw [← e1] at this
   exact ih (by rw [show (128 : Int) - (d : Int) = 127 - (d : Int) + 1 by omega]; exact this) (by omega)
/-- What the program writes beside the ranks: -2 for what may be taken, so far. -/
theorem ordI_l1 (l : List S98) (R : List Int) (hR : R.length = 128) (q z : Int) (r : List Int × Bool)
  (hk : ∀ F : List Int, F.length = 128 → (∀ c, 0 ≤ c → c ≤ 127 → rd F c = if rd R c < 0 then -2 else rd R c) → Ev (fun k => impl_OrderOf.l2 k l R q F z l (l.length : Int) 0) r) :
  ∀ (d : Nat) (i : Int) (F : List Int), 0 ≤ i → 128 - i = (d : Int) → F.length = 128 → (∀ c, 0 ≤ c → c ≤ 127 → rd F c = if c < i then (if rd R c < 0 then -2 else rd R c) else rd R c) → Ev (fun k => impl_OrderOf.l1 k l R q F z R (R.length : Int) i) r
 | 0, i, F, h0, hi, hF, hv => by
  have := hk F hF (fun c c0 c1 => by rw [hv c c0 c1, if_pos (by omega)])
  refine Ev.suc ?_
  simp only [impl_OrderOf.l1]
  exact Ev.ite_neg (by omega) this
 | d + 1, i, F, h0, hi, hF, hv => by
  have hw : wrap64 (i + 1) = i + 1 := w64 (by omega) (by omega)
  refine Ev.suc ?_
  simp only [impl_OrderOf.l1, hw]
  refine Ev.ite_pos (by omega) (Ev.ite_pos h0 (Ev.ite_pos (by omega) (Ev.ite (fun q1 => Ev.ite_pos (by omega) ?_) (fun q1 => ?_))))
  ·refine ordI_l1 l R hR q z r hk d (i + 1) (F.set i.toNat (-2)) (by omega) (by omega) (by rw [List.length_set]; exact hF) (fun c c0 c1 => ?_)
   rw [rd_setI F i (-2) c h0 (by omega) c0, hv c c0 c1]
   by_cases e : c = i
   ·rw [if_pos e, e, if_pos (by omega), if_pos q1]
   ·rw [if_neg e]
    by_cases e2 : c < i
    ·rw [if_pos e2, if_pos (show c < i + 1 by omega)]
    ·rw [if_neg e2, if_neg (show ¬ c < i + 1 by omega)]
  ·refine ordI_l1 l R hR q z r hk d (i + 1) F (by omega) (by omega) hF (fun c c0 c1 => ?_)
   rw [hv c c0 c1]
   by_cases e : c = i
   ·rw [e, if_neg (by omega), if_pos (by omega), if_neg q1]
   ·by_cases e2 : c < i
    ·rw [if_pos e2, if_pos (show c < i + 1 by omega)]
    ·rw [if_neg e2, if_neg (show ¬ c < i + 1 by omega)]
/-- What stands beside the ranks behind the elements 'pre'. -/
def FI (R F : List Int) (pre : List S98) : Prop := F.length = 128 ∧ ∀ c, 0 ≤ c → c ≤ 127 → ((rd R c < 0 ∧ (∃ x, x ∈ pre ∧ x.f1 = c ∧ rd R x.f0 < 0) ∧ rd F c = -1) ∨ (rd R c < 0 ∧ (∀ x ∈ pre, x.f1 = c → ¬ rd R x.f0 < 0) ∧ rd F c = -2) ∨ (¬ rd R c < 0 ∧ rd F c = rd R c))
theorem ordI_l2 (l : List S98) (hl : l.length ≤ 1048576) (hd : ∀ x ∈ l, dIn x) (R : List Int) (hR : R.length = 128) (q z : Int) (r : List Int × Bool)
  (hk : ∀ F : List Int, FI R F l → Ev (fun k => (impl_nextRanked.f k l F).bind fun t143 => (if t143 < 0 then (some (([] : List Int), false)) else (if 0 ≤ t143 then (if t143 < (R.length : Int) then (impl_OrderOf.l0 k l (R.set (t143 : Int).toNat q) (wrap64 (z + 1))) else (none)) else (none)))) r) :
  ∀ (rest pre : List S98) (F : List Int), l = pre ++ rest → FI R F pre → Ev (fun k => impl_OrderOf.l2 k l R q F z l (l.length : Int) (pre.length : Int)) r
 | [], pre, F, e, hF => by
  rw [List.append_nil] at e
  have := hk F (e ▸ hF)
  refine Ev.suc ?_
  simp only [impl_OrderOf.l2]
  exact Ev.ite_neg (by rw [e]; omega) this
 | x :: rest, pre, F, e, hF => by
  have hlen : pre.length + (rest.length + 1) = l.length := by rw [e]; simp
  have hxr := hd x (by rw [e]; exact List.mem_append.2 (Or.inr List.mem_cons_self))
  have hw : wrap64 ((pre.length : Int) + 1) = ((pre ++ [x]).length : Int) := by rw [w64 (by omega) (by omega), len_snoc]
  have hx : rd_T98 l (pre.length : Int) = x := by rw [e]; exact rdI_Depend pre x rest
  have go := fun F' hF' => ordI_l2 l hl hd R hR q z r hk rest (pre ++ [x]) F' (by rw [e]; simp) hF'
  obtain ⟨hFl, hFv⟩ := hF
  have keep : (¬ (rd R x.f0 < 0 ∧ rd R x.f1 < 0)) → FI R F (pre ++ [x]) := fun hn => ⟨hFl, fun c c0 c1 => by
   rcases hFv c c0 c1 with ⟨h1, ⟨y, hy, hy1, hy2⟩, h3⟩ | ⟨h1, h2, h3⟩ | ⟨h1, h2⟩
   ·exact Or.inl ⟨h1, ⟨y, List.mem_append.2 (Or.inl hy), hy1, hy2⟩, h3⟩
   ·refine Or.inr (Or.inl ⟨h1, fun y hy hy1 hy2 => ?_, h3⟩)
    rcases List.mem_append.1 hy with hy | hy
    ·exact h2 y hy hy1 hy2
    ·rw [List.mem_singleton.1 hy] at hy1 hy2
     exact hn ⟨hy2, by rw [hy1]; exact h1⟩
   ·exact Or.inr (Or.inr ⟨h1, h2⟩)⟩
  refine Ev.suc ?_
  simp only [impl_OrderOf.l2, hx, hw]
  refine Ev.ite_pos (by omega) (Ev.ite_pos (by omega) (Ev.ite_pos (by omega) (Ev.ite_pos hxr.1.1 (Ev.ite_pos (by omega) (Ev.ite (fun q1 => Ev.ite_pos hxr.2.1 (Ev.ite_pos (by omega) (Ev.ite (fun q2 => Ev.ite_pos (by omega) ?_) (fun q2 => go F (keep (fun h => q2 h.2)))))) (fun q1 => go F (keep (fun h => q1 h.1))))))))
  refine go _ ⟨by rw [List.length_set]; exact hFl, fun c c0 c1 => ?_⟩
  rw [rd_setI F x.f1 (-1) c hxr.2.1 (by omega) c0]
  by_cases ec : c = x.f1
  ·rw [if_pos ec, ec]
   exact Or.inl ⟨q2, ⟨x, List.mem_append.2 (Or.inr (List.mem_singleton.2 rfl)), rfl, q1⟩, rfl⟩
  ·rw [if_neg ec]
   rcases hFv c c0 c1 with ⟨h1, ⟨y, hy, hy1, hy2⟩, h3⟩ | ⟨h1, h2, h3⟩ | ⟨h1, h2⟩
   ·exact Or.inl ⟨h1, ⟨y, List.mem_append.2 (Or.inl hy), hy1, hy2⟩, h3⟩
   ·refine Or.inr (Or.inl ⟨h1, fun y hy hy1 hy2 => ?_, h3⟩)
    rcases List.mem_append.1 hy with hy | hy
    ·exact h2 y hy hy1 hy2
    ·rw [List.mem_singleton.1 hy] at hy1
     exact ec hy1.symm
   ·exact Or.inr (Or.inr ⟨h1, h2⟩)
theorem next_l0 (l : List S98) (R F : List Int) (hF : FI R F l) (hv : ∀ c, 0 ≤ c → c ≤ 127 → -1 ≤ rd R c) : ∀ (d : Nat) (c : Int), 0 ≤ c → 128 - c = (d : Int) → (∀ c', 0 ≤ c' → c' < c → ¬ freeC l R c') → ∃ b, Pick l R b ∧ Ev (fun k => impl_nextRanked.l0 k F c) b
 | 0, c, h0, hc, hn => by
  refine ⟨-1, Or.inl ⟨rfl, fun c' c0 c1 => hn c' c0 (by omega)⟩, Ev.suc ?_⟩
  simp only [impl_nextRanked.l0]
  exact Ev.ite_neg (by have := hF.1; omega) (Ev.now _)
 | d + 1, c, h0, hc, hn => by
  have hw : wrap64 (c + 1) = c + 1 := w64 (by omega) (by omega)
  have hFl := hF.1
  have hv' := hv c h0 (by omega)
  by_cases q : rd F c = -2
  ·refine ⟨c, Or.inr ⟨⟨h0, by omega⟩, ?_, hn⟩, Ev.suc ?_⟩
   ·rcases hF.2 c h0 (by omega) with ⟨_, _, h3⟩ | ⟨h1, h2, _⟩ | ⟨h1, h2⟩
    ·omega
    ·exact ⟨h1, h2⟩
    ·omega
   ·simp only [impl_nextRanked.l0]
    exact Ev.ite_pos (by omega) (Ev.ite_pos h0 (Ev.ite_pos q (Ev.now _)))
  ·obtain ⟨b, hb, hr⟩ := next_l0 l R F hF hv d (c + 1) (by omega) (by omega) (fun c' h1 h2 hf => by
    by_cases e : c' = c
    ·rw [e] at hf
     rcases hF.2 c h0 (by omega) with ⟨_, ⟨y, hy, hy1, hy2⟩, _⟩ | ⟨_, _, h3⟩ | ⟨h1, _⟩
     ·exact hf.2 y hy hy1 hy2
     ·exact q h3
     ·exact h1 hf.1
    ·exact hn c' h1 (by omega) hf)
   refine ⟨b, hb, Ev.suc ?_⟩
   simp only [impl_nextRanked.l0, hw]
   exact Ev.ite_pos (by omega) (Ev.ite_pos h0 (Ev.ite_neg q hr))
theorem ordI_step (l : List S98) (hl : l.length ≤ 1048576) (hd : ∀ x ∈ l, dIn x) (q : Int) (R : List Int) (hi : RI l q R) (hq0 : 0 ≤ q) (hq : q < 128) (b : Int) (hb : Pick l R b) (r : List Int × Bool) (hk : Ev (fun k => if b < 0 then (some (([] : List Int), false)) else (if 0 ≤ b then (if b < (R.length : Int) then (impl_OrderOf.l0 k l (R.set (b : Int).toNat q) (wrap64 (q + 1))) else (none)) else (none))) r) : Ev (fun k => impl_OrderOf.l0 k l R q) r := by
 have hR := hi.len
 have h := ordI_l1 l R hR q q r (fun F hF hv => ordI_l2 l hl hd R hR _ _ r (fun F' hF' => by
  obtain ⟨b', hb', hr'⟩ := next_l0 l R F' hF' (fun c c0 c1 => (hi.val c c0 c1).1) 128 0 (by omega) (by omega) (fun c' h0 h1 => by omega)
  obtain rfl := hb.unique hb'
  unfold impl_nextRanked.f
  exact Ev.bind hr' hk) l [] F rfl ⟨hF, fun c c0 c1 => by
   rw [hv c c0 c1]
   by_cases e : rd R c < 0
   ·rw [if_pos e]
    exact Or.inr (Or.inl ⟨e, fun y hy => (by cases hy), rfl⟩)
   ·rw [if_neg e]
    exact Or.inr (Or.inr ⟨e, rfl⟩)⟩) 128 0 R (by omega) (by omega) hR (fun c c0 c1 => by rw [if_neg (by omega)])
 refine Ev.suc ?_
 simp only [impl_OrderOf.l0]
 refine Ev.ite_pos (by omega) (Ev.bind (a := R) ?_ h)
 unfold slices_Clone_int_int.f
 rw [if_pos ⟨by omega, by omega⟩]
 exact Ev.now _
theorem ordI_l0 (l : List S98) (hl : l.length ≤ 1048576) (hd : ∀ x ∈ l, dIn x) : ∀ (d : Nat) (R : List Int), d ≤ 128 → RI l (128 - (d : Int)) R → ∃ r, Ord l d R r ∧ Ev (fun k => impl_OrderOf.l0 k l R (128 - (d : Int))) r := by
 intro d
 induction d with
 | zero =>
  intro R _ hi
  refine ⟨(R, true), .done R, Ev.suc ?_⟩
  simp only [impl_OrderOf.l0]
  exact Ev.ite_neg (by omega) (Ev.now _)
 | succ d ih =>
  intro R hdl hi
  have hR := hi.len
  obtain ⟨b, hb⟩ := pick_ex l R
  have fin : ∀ r, Ev (fun k => if b < 0 then (some (([] : List Int), false)) else (if 0 ≤ b then (if b < (R.length : Int) then (impl_OrderOf.l0 k l (R.set (b : Int).toNat (128 - ((d + 1 : Nat) : Int))) (wrap64 (128 - ((d + 1 : Nat) : Int) + 1))) else (none)) else (none))) r → Ev (fun k => impl_OrderOf.l0 k l R (128 - ((d + 1 : Nat) : Int))) r := fun r hk => by
   exact ordI_step l hl hd _ R hi (by omega) (by omega) b hb r hk
  by_cases q : b < 0
  ·have e : b = -1 := by
    rcases hb with ⟨h, _⟩ | ⟨h, _⟩
    ·exact h
    ·omega
   subst e
   exact ⟨([], false), .fail hb, fin _ (Ev.ite_pos q (Ev.now _))⟩
  ·have hf : (0 ≤ b ∧ b ≤ 127) ∧ freeC l R b := by
    rcases hb with ⟨h, _⟩ | ⟨h, h2, _⟩
    ·omega
    ·exact ⟨h, h2⟩
   have hi' := hi.put hd hf.1 hf.2 (by omega)
   rw [show (128 : Int) - ((d + 1 : Nat) : Int) = 127 - (d : Int) by omega, show (127 : Int) - (d : Int) + 1 = 128 - (d : Int) by omega] at hi'
   obtain ⟨r, ho, hr⟩ := ih (R.set b.toNat (127 - (d : Int))) (by omega) hi'
   refine ⟨r, .step hb (by omega) ho, fin _ (Ev.ite_neg q (Ev.ite_pos (by omega) (Ev.ite_pos (by omega) ?_)))⟩
   rw [show (128 : Int) - ((d + 1 : Nat) : Int) = 127 - (d : Int) by omega, w64 (by omega) (by omega), show (127 : Int) - (d : Int) + 1 = 128 - (d : Int) by omega]
   exact hr
theorem OrderOf_i (l : List S98) (hl : l.length ≤ 1048576) : ∃ r, Ev (fun k => impl_OrderOf.f k l) r ∧ (if dAll l = true then Ord l 128 (List.replicate 128 (-1)) r else r = ([], false)) := by
 have hok := DependsOk_i l hl
 by_cases h : dAll l = true
 ·rw [h] at hok
  obtain ⟨r, ho, hr⟩ := ordI_l0 l hl (dAll_in l h) 128 (List.replicate 128 (-1)) (by omega) (RI.start (dAll_in l h))
  refine ⟨r, ?_, by rw [if_pos h]; exact ho⟩
  unfold impl_OrderOf.f slices_Repeat_int_int.f
  rw [if_pos ⟨rfl, rfl⟩]
  simp only [Option.bind_some]
  exact Ev.bind hok (Ev.ite_pos rfl hr)
 ·refine ⟨([], false), ?_, by rw [if_neg h]⟩
  unfold impl_OrderOf.f
  exact Ev.bind hok (Ev.ite_neg h (Ev.now _))

/-- What the step says: a successor that is near enough. -/
abbrev okF (fr : Int → Int) (s : Int) (n : Nat) (c : Int) : Bool := decide (s ≤ c ∧ fr c = (n : Int))
theorem Girth.step {adj : Int → Int → Prop} {s a : Int} {g i n : Nat} {su : Int → List Int} {fr : Int → Int} (h : Girth adj s g) (hsu : ∀ a c, c ∈ su a ↔ adj a c) (hfr : ∀ a c, adj a c → DT (adjF adj s) s c (fr c))
  (e : i + (n + 1) = g) (h1 : Wk adj i s a) (h2 : Wk adj (n + 1) a s) : ∃ c, (su a).find? (okF fr s n) = some c ∧ adj a c ∧ Wk adj (i + 1) s c ∧ Wk adj n c s ∧ s ≤ c ∧ fr c = (n : Int) := by
 obtain ⟨c0, hc0, hs0, hw0, _, hx0⟩ := h.near (n := n) (by omega) h1 h2
 obtain ⟨c, hf, hm, hp⟩ := find_some (p := okF fr s n) ⟨c0, (hsu a c0).2 hc0, decide_eq_true ⟨hs0, hx0 _ (hfr a c0 hc0)⟩⟩
 have hp' := of_decide_eq_true hp
 have hc := (hsu a c).1 hm
 have hw := adjF.lift ((hfr a c hc).walk (by omega))
 rw [hp'.2, Int.toNat_natCast] at hw
 exact ⟨c, hf, hc, Wk.snoc hc h1, hw, hp'.1, hp'.2⟩
theorem Girth.path {adj : Int → Int → Prop} {s : Int} {g : Nat} {su : Int → List Int} {fr : Int → Int} (h : Girth adj s g) (hsu : ∀ a c, c ∈ su a ↔ adj a c) (hfr : ∀ a c, adj a c → DT (adjF adj s) s c (fr c)) :
  ∀ (n i : Nat) (a : Int), i + n = g → Wk adj i s a → Wk adj n a s → (pathF su (okF fr s) n a).length = n ∧ (pathF su (okF fr s) n a).getD 0 s = a ∧
   ∀ j, j < n → Wk adj (i + j) s ((pathF su (okF fr s) n a).getD j s) ∧ Wk adj (n - j) ((pathF su (okF fr s) n a).getD j s) s ∧ adj ((pathF su (okF fr s) n a).getD j s) ((pathF su (okF fr s) n a).getD (j + 1) s)
 | 0, i, a, e, h1, h2 => ⟨rfl, (show a = s from h2).symm, fun j hj => by omega⟩
 | n + 1, i, a, e, h1, h2 => by
  obtain ⟨c, hf, hc, h3, h4, _, _⟩ := h.step hsu hfr e h1 h2
  obtain ⟨l1, l2, l3⟩ := h.path hsu hfr n (i + 1) c (by omega) h3 h4
  rw [pathF_some hf]
  refine ⟨by rw [List.length_cons, l1], rfl, fun j hj => ?_⟩
  cases j with
  | zero =>
   refine ⟨h1, h2, ?_⟩
   rw [List.getD_cons_succ, l2]
   exact hc
  | succ j =>
   obtain ⟨m1, m2, m3⟩ := l3 j (by omega)
   simp only [List.getD_cons_succ]
   exact ⟨by rw [show i + (j + 1) = i + 1 + j by omega]; exact m1, by rw [show n + 1 - (j + 1) = n - j by omega]; exact m2, m3⟩
theorem Girth.inj {adj : Int → Int → Prop} {s a : Int} {g i j : Nat} (h : Girth adj s g) (hij : i < j) (hj : j < g) (h1 : Wk adj i s a) (h2 : Wk adj (g - j) a s) : False := by
 have := h.least s (i + (g - j)) (by omega) (Wk.append h2 h1)
 omega

/-- What the shortest cycle is: nothing where there is no closed walk, else the channels of a shortest one from its least channel on. -/
def IsShort (l : List S98) (P : List Int) : Prop := (P = [] ∧ ∀ c n, 0 < n → ¬ Wk (adjL l) n c c) ∨ ∃ (s : Int) (g : Nat) (fr : Int → Int), Girth (adjL l) s g ∧ (∀ a c, adjL l a c → DT (adjF (adjL l) s) s c (fr c)) ∧ P = pathF (su l) (okF fr s) g s
theorem DT.unique {adj : Int → Int → Prop} {g v x y : Int} (h : DT adj g v x) (k : DT adj g v y) : x = y := by
 rcases h with ⟨rfl, h⟩ | ⟨m, rfl, h1, h2⟩
 ·rcases k with ⟨rfl, _⟩ | ⟨n, rfl, k1, _⟩
  ·rfl
  ·exact absurd k1 (h n)
 ·rcases k with ⟨rfl, k⟩ | ⟨n, rfl, k1, k2⟩
  ·exact absurd h1 (k m)
  ·rcases Nat.lt_trichotomy m n with h | h | h
   ·exact absurd h1 (k2 m h)
   ·rw [h]
   ·exact absurd k1 (h2 n h)
theorem pathF_congr {su : Int → List Int} {ok ok' : Nat → Int → Bool} (h : ∀ a c n, c ∈ su a → ok n c = ok' n c) : ∀ (n : Nat) (a : Int), pathF su ok n a = pathF su ok' n a
 | 0, _ => rfl
 | n + 1, a => by
  rw [pathF_succ, pathF_succ, find_congr (fun c hc => h a c n hc)]
  split
  ·rw [pathF_congr h n]
  ·rfl
theorem Girth.unique {adj : Int → Int → Prop} {s s' : Int} {g g' : Nat} (h : Girth adj s g) (k : Girth adj s' g') : s = s' ∧ g = g' := by
 have h1 := h.least s' g' k.pos k.wk
 have h2 := k.least s g h.pos h.wk
 refine ⟨?_, by omega⟩
 rcases Int.lt_trichotomy s s' with e | e | e
 ·have := k.first s g e h.pos h.wk
  omega
 ·exact e
 ·have := h.first s' g' e k.pos k.wk
  omega
theorem IsShort.unique {l : List S98} {P Q : List Int} (h : IsShort l P) (k : IsShort l Q) : P = Q := by
 rcases h with ⟨rfl, h⟩ | ⟨s, g, fr, hg, hf, rfl⟩
 ·rcases k with ⟨rfl, _⟩ | ⟨s, g, fr, hg, _, _⟩
  ·rfl
  ·exact absurd hg.wk (h s g hg.pos)
 ·rcases k with ⟨rfl, k⟩ | ⟨s', g', fr', hg', hf', rfl⟩
  ·exact absurd hg.wk (k s g hg.pos)
  ·obtain ⟨rfl, rfl⟩ := hg.unique hg'
   exact pathF_congr (fun a c n hc => by
    have hc' := (su_mem l a c).1 hc
    unfold okF
    rw [(hf a c hc').unique (hf' a c hc')]) g s
theorem wk_in {l : List S98} (hd : ∀ x ∈ l, dIn x) {n : Nat} {c e : Int} (hn : 0 < n) (h : Wk (adjL l) n c e) : 0 ≤ c ∧ c ≤ 127 := by
 obtain ⟨m, rfl⟩ : ∃ m, n = m + 1 := ⟨n - 1, by omega⟩
 obtain ⟨b, hb, _⟩ := h
 exact (adjL_in hd hb).1
theorem girth_ex {l : List S98} (hd : ∀ x ∈ l, dIn x) {c : Int} {n : Nat} (hn : 0 < n) (h : Wk (adjL l) n c c) : ∃ s g, Girth (adjL l) s g := by
 obtain ⟨g, ⟨h1, c1, h2⟩, _, h3⟩ := least (P := fun n => 0 < n ∧ ∃ c, Wk (adjL l) n c c) n ⟨hn, c, h⟩
 have hr := wk_in hd h1 h2
 obtain ⟨q, h4, _, h5⟩ := least (P := fun q => Wk (adjL l) g (q : Int) (q : Int)) c1.toNat (by rw [show ((c1.toNat : Nat) : Int) = c1 by omega]; exact h2)
 refine ⟨(q : Int), g, h1, h4, fun d m hm hw => ?_, fun d m hdq hm hw => ?_⟩
 ·rcases Nat.lt_or_ge m g with e | e
  ·exact absurd ⟨hm, d, hw⟩ (h3 m e)
  ·exact e
 ·have hdr := wk_in hd hm hw
  rcases Nat.lt_or_ge g m with e | e
  ·exact e
  ·rcases Nat.lt_or_ge m g with e2 | e2
   ·exact absurd ⟨hm, d, hw⟩ (h3 m e2)
   ·have e3 : m = g := by omega
    subst e3
    exact absurd (by rw [show ((d.toNat : Nat) : Int) = d by omega]; exact hw) (h5 d.toNat (by omega))
theorem dt_fun (adj : Int → Int → Prop) (s : Int) : ∃ fr : Int → Int, ∀ c, DT adj s c (fr c) := by
 have h : ∀ c, ∃ x, DT adj s c x := fun c => by
  by_cases hx : ∃ n, Wk adj n c s
  ·obtain ⟨n, hx⟩ := hx
   obtain ⟨m, hm, _, hml⟩ := least (P := fun n => Wk adj n c s) n hx
   exact ⟨(m : Int), Or.inr ⟨m, rfl, hm, hml⟩⟩
  ·exact ⟨-1, Or.inl ⟨rfl, fun n hn => hx ⟨n, hn⟩⟩⟩
 exact ⟨fun c => Classical.choose (h c), fun c => Classical.choose_spec (h c)⟩
theorem getD_lt (P : List Int) (j : Nat) (s : Int) (h : j < P.length) : P.getD j s = P[j] := by
 rw [List.getD_eq_getElem?_getD, List.getElem?_eq_getElem h]
 rfl
theorem path_nodup {l : List S98} {s : Int} {g : Nat} {fr : Int → Int} (hG : Girth (adjL l) s g) (hfr : ∀ a c, adjL l a c → DT (adjF (adjL l) s) s c (fr c)) : (pathF (su l) (okF fr s) g s).Nodup := by
 obtain ⟨h1, _, h3⟩ := hG.path (su_mem l) hfr g 0 s (by omega) rfl hG.wk
 refine List.pairwise_iff_getElem.2 fun i j hi hj hij e => ?_
 have a1 := h3 i (by omega)
 have a2 := h3 j (by omega)
 rw [getD_lt _ i s hi, Nat.zero_add] at a1
 rw [getD_lt _ j s hj] at a2
 exact hG.inj hij (by omega) (e ▸ a1.1) a2.2.1
theorem girth_le {l : List S98} (hd : ∀ x ∈ l, dIn x) {s : Int} {g : Nat} (hG : Girth (adjL l) s g) : g ≤ 128 := by
 obtain ⟨fr, hfr⟩ := dt_fun (adjF (adjL l) s) s
 obtain ⟨h1, _, h3⟩ := hG.path (su_mem l) (fun _ c _ => hfr c) g 0 s (by omega) rfl hG.wk
 have := nodup_len 128 _ (path_nodup hG (fun _ c _ => hfr c)) (fun x hx => by
  obtain ⟨j, hj, rfl⟩ := List.getElem_of_mem hx
  have a1 := (h3 j (by omega)).2.2
  rw [getD_lt _ j s hj] at a1
  have := (adjL_in hd a1).1
  omega)
 omega

/-- What holds while the channels that lead to a goal are found: O the numbers so far, P the channels gone through, T those still to be gone through. -/
structure QI (E : Int → Int → Prop) (goal : Int) (O P T : List Int) : Prop where
 len : O.length = 128
 val : ∀ v, 0 ≤ v → v ≤ 127 → -1 ≤ rd O v ∧ rd O v < ((P ++ T).length : Int) ∧ (0 ≤ rd O v → Wk E (rd O v).toNat v goal)
 mem : ∀ v, 0 ≤ v → v ≤ 127 → (v ∈ P ++ T ↔ 0 ≤ rd O v)
 nin : ∀ v, v ∈ P ++ T → 0 ≤ v ∧ v ≤ 127
 srt : (P ++ T).Pairwise (fun x y => rd O x ≤ rd O y)
 top : ∀ c R, T = c :: R → ∀ v, v ∈ P ++ T → rd O v ≤ rd O c + 1
 clo : ∀ v, v ∈ P → ∀ u, E u v → 0 ≤ rd O u ∧ rd O u ≤ rd O v + 1
 goal0 : rd O goal = 0
 cnt : O.count (-1) + (P ++ T).length = 128
theorem QI.put {E : Int → Int → Prop} {goal : Int} {O P R : List Int} {c s : Int} (h : QI E goal O P (c :: R)) (hE : ∀ x y, E x y → 0 ≤ x ∧ x ≤ 127) (hg : 0 ≤ goal ∧ goal ≤ 127) (hs : E s c) (h0 : rd O s < 0) :
  QI E goal (O.set s.toNat (rd O c + 1)) P (c :: (R ++ [s])) := by
 have hr := hE s c hs
 have hl := h.len
 have hcm : c ∈ P ++ (c :: R) := List.mem_append.2 (Or.inr List.mem_cons_self)
 have hcr := h.nin c hcm
 have hc0 := (h.mem c hcr.1 hcr.2).1 hcm
 have hcv := h.val c hcr.1 hcr.2
 have hsn : s ∉ P ++ (c :: R) := fun z => by have := (h.mem s hr.1 hr.2).1 z; omega
 have hG : ∀ u, 0 ≤ u → rd (O.set s.toNat (rd O c + 1)) u = if u = s then rd O c + 1 else rd O u := fun u hu => rd_setI O s _ u hr.1 (by omega) hu
 have hsame : ∀ u, u ∈ P ++ (c :: R) → rd (O.set s.toNat (rd O c + 1)) u = rd O u := fun u hu => by
  rw [hG u (h.nin u hu).1, if_neg (by rintro rfl; exact hsn hu)]
 have happ : P ++ (c :: (R ++ [s])) = (P ++ (c :: R)) ++ [s] := by simp
 have hcs : c ≠ s := fun e => hsn (e ▸ hcm)
 have h1 : rd O s = -1 := by have := (h.val s hr.1 hr.2).1; omega
 refine ⟨by rw [List.length_set]; exact hl, fun v v0 v1 => ?_, fun v v0 v1 => ?_, fun v hv => ?_, ?_, fun c' R' e v hv => ?_, fun v hv u hu => ?_, ?_, ?_⟩
 ·rw [hG v v0, happ, List.length_append, List.length_singleton]
  by_cases e : v = s
  ·rw [if_pos e]
   refine ⟨by omega, by omega, fun _ => ?_⟩
   rw [e, show (rd O c + 1).toNat = (rd O c).toNat + 1 by omega]
   exact Wk.cons hs (hcv.2.2 hc0)
  ·rw [if_neg e]
   have := h.val v v0 v1
   exact ⟨this.1, by omega, this.2.2⟩
 ·rw [hG v v0, happ, List.mem_append, List.mem_singleton, h.mem v v0 v1]
  by_cases e : v = s
  ·simp only [e, if_pos, or_true, true_iff]
   omega
  ·simp [e]
 ·rw [happ] at hv
  rcases List.mem_append.1 hv with hv | hv
  ·exact h.nin v hv
  ·rw [List.mem_singleton.1 hv]
   exact hr
 ·rw [happ, List.pairwise_append]
  refine ⟨List.Pairwise.imp_of_mem (fun {x y} hx hy hxy => by rw [hsame x hx, hsame y hy]; exact hxy) h.srt, List.pairwise_singleton _ _, fun x hx y hy => ?_⟩
  rw [List.mem_singleton.1 hy, hsame x hx, hG s hr.1, if_pos rfl]
  exact h.top c R rfl x hx
 ·injection e with e1 e2
  subst e1
  rw [hsame c hcm]
  rw [happ] at hv
  rcases List.mem_append.1 hv with hv | hv
  ·rw [hsame v hv]
   exact h.top c R rfl v hv
  ·rw [List.mem_singleton.1 hv, hG s hr.1, if_pos rfl]
   omega
 ·have := h.clo v hv u hu
  rw [hsame v (List.mem_append.2 (Or.inl hv)), hG u (hE u v hu).1, if_neg (by rintro rfl; omega)]
  exact this
 ·rw [hG goal hg.1, if_neg (by rintro rfl; have := h.goal0; omega)]
  exact h.goal0
 ·have := count_setI O s (rd O c + 1) (-1) hr.1 (by omega) h1 (by omega)
  have := h.cnt
  rw [happ, List.length_append, List.length_singleton]
  omega
theorem QI.next {E : Int → Int → Prop} {goal : Int} {O P R : List Int} {c : Int} (h : QI E goal O P (c :: R)) (hs : ∀ u, E u c → 0 ≤ rd O u ∧ rd O u ≤ rd O c + 1) : QI E goal O (P ++ [c]) R := by
 have happ : (P ++ [c]) ++ R = P ++ (c :: R) := by simp
 refine ⟨h.len, by rw [happ]; exact h.val, by rw [happ]; exact h.mem, by rw [happ]; exact h.nin, by rw [happ]; exact h.srt, fun c' R' e v hv => ?_, fun v hv u hu => ?_, h.goal0, by rw [happ]; exact h.cnt⟩
 ·rw [happ] at hv
  have h1 := h.top c R rfl v hv
  have h2 := h.srt
  rw [e, List.pairwise_append] at h2
  have h3 := (List.pairwise_cons.1 h2.2.1).1 c' List.mem_cons_self
  omega
 ·rcases List.mem_append.1 hv with hv | hv
  ·exact h.clo v hv u hu
  ·rw [List.mem_singleton.1 hv] at hu ⊢
   exact hs u hu
theorem QI.close {E : Int → Int → Prop} {goal : Int} {O P : List Int} (h : QI E goal O P []) (hE : ∀ x y, E x y → 0 ≤ x ∧ x ≤ 127) (hg : 0 ≤ goal ∧ goal ≤ 127) : ∀ (n : Nat) (v : Int), Wk E n v goal → (0 ≤ v ∧ v ≤ 127) ∧ 0 ≤ rd O v ∧ rd O v ≤ (n : Int)
 | 0, v, hw => by
  have e : v = goal := hw
  rw [e, h.goal0]
  exact ⟨hg, by omega, by omega⟩
 | n + 1, v, ⟨b, hb, hw⟩ => by
  obtain ⟨h1, h2, h3⟩ := h.close hE hg n b hw
  have hm := (h.mem b h1.1 h1.2).2 h2
  rw [List.append_nil] at hm
  have := h.clo b hm v hb
  exact ⟨hE v b hb, this.1, by omega⟩
theorem QI.dt {E : Int → Int → Prop} {goal : Int} {O P : List Int} (h : QI E goal O P []) (hE : ∀ x y, E x y → 0 ≤ x ∧ x ≤ 127) (hg : 0 ≤ goal ∧ goal ≤ 127) (v : Int) (v0 : 0 ≤ v) (v1 : v ≤ 127) : DT E goal v (rd O v) ∧ rd O v ≤ 127 := by
 have hv := h.val v v0 v1
 have hc := h.cnt
 refine ⟨?_, by omega⟩
 by_cases h0 : 0 ≤ rd O v
 ·refine Or.inr ⟨(rd O v).toNat, by omega, hv.2.2 h0, fun j hj hw => ?_⟩
  have := (h.close hE hg j v hw).2
  omega
 ·refine Or.inl ⟨by omega, fun n hw => ?_⟩
  have := (h.close hE hg n v hw).2
  omega
theorem dist_l1 (l : List S98) (hl : l.length ≤ 1048576) (hd : ∀ x ∈ l, dIn x) (goal least : Int) (hg : 0 ≤ goal ∧ goal ≤ 127) (c : Int) (P : List Int) (G : List Int → Prop) : ∀ (rest pre : List S98) (O R : List Int), l = pre ++ rest →
  QI (adjF (adjL l) least) goal O P (c :: R) → (∀ x ∈ pre, x.f1 = c → least ≤ x.f0 → 0 ≤ rd O x.f0 ∧ rd O x.f0 ≤ rd O c + 1) →
  (∀ O' R', QI (adjF (adjL l) least) goal O' P (c :: R') → (∀ x ∈ l, x.f1 = c → least ≤ x.f0 → 0 ≤ rd O' x.f0 ∧ rd O' x.f0 ≤ rd O' c + 1) → ∃ r, G r ∧ Ev (fun k => impl_distancesTo.l0 k l least O' (P ++ c :: R') (wrap64 ((P.length : Int) + 1))) r) →
  ∃ r, G r ∧ Ev (fun k => impl_distancesTo.l1 k l least O (P ++ c :: R) (P.length : Int) l (l.length : Int) (pre.length : Int)) r
 | [], pre, O, R, e, hi, hp, hk => by
  rw [List.append_nil] at e
  obtain ⟨r, hG, this⟩ := hk O R hi (by rw [e]; exact e ▸ hp)
  refine ⟨r, hG, Ev.suc ?_⟩
  simp only [impl_distancesTo.l1]
  exact Ev.ite_neg (by rw [e]; omega) this
 | x :: rest, pre, O, R, e, hi, hp, hk => by
  have hlen : pre.length + (rest.length + 1) = l.length := by rw [e]; simp
  have h1 : (pre.length : Int) < (l.length : Int) := by omega
  have hw : wrap64 ((pre.length : Int) + 1) = ((pre ++ [x]).length : Int) := by rw [w64 (by omega) (by omega), len_snoc]
  have hx : rd_T98 l (pre.length : Int) = x := by rw [e]; exact rdI_Depend pre x rest
  have hxm : x ∈ l := by rw [e]; exact List.mem_append.2 (Or.inr List.mem_cons_self)
  have hxr := hd x hxm
  have hE : ∀ x y, adjF (adjL l) least x y → 0 ≤ x ∧ x ≤ 127 := fun x y h => (adjL_in hd h.1).1
  have hq : rd (P ++ c :: R) (P.length : Int) = c := rd_mid P c R
  have hql : (P.length : Int) < ((P ++ c :: R).length : Int) := by simp only [List.length_append, List.length_cons]; omega
  have hOl := hi.len
  have hcm : c ∈ P ++ (c :: R) := List.mem_append.2 (Or.inr List.mem_cons_self)
  have hcr := hi.nin c hcm
  have hcnt := hi.cnt
  have hcv := hi.val c hcr.1 hcr.2
  have e' : l = (pre ++ [x]) ++ rest := by rw [e]; simp
  have hskip : (x.f1 = c → least ≤ x.f0 → 0 ≤ rd O x.f0 ∧ rd O x.f0 ≤ rd O c + 1) → ∃ r, G r ∧ Ev (fun k => impl_distancesTo.l1 k l least O (P ++ c :: R) (P.length : Int) l (l.length : Int) ((pre ++ [x]).length : Int)) r := fun hx' =>
   dist_l1 l hl hd goal least hg c P G rest (pre ++ [x]) O R e' hi (fun y hy => by
    rcases List.mem_append.1 hy with hy | hy
    ·exact hp y hy
    ·rw [List.mem_singleton.1 hy]
     exact hx') hk
  by_cases q1 : x.f1 = c
  ·by_cases q2 : least ≤ x.f0
   ·by_cases q3 : rd O x.f0 < 0
    ·have hs : adjF (adjL l) least x.f0 c := ⟨⟨x, hxm, rfl, q1⟩, q2⟩
     have hi' := hi.put hE hg hs q3
     have hG' : ∀ u, 0 ≤ u → rd (O.set x.f0.toNat (rd O c + 1)) u = if u = x.f0 then rd O c + 1 else rd O u := fun u hu => rd_setI O x.f0 _ u hxr.1.1 (by omega) hu
     have hc0 := (hi.mem c hcr.1 hcr.2).1 hcm
     have hcx : ¬ c = x.f0 := by rintro rfl; omega
     obtain ⟨r, hG, ih⟩ := dist_l1 l hl hd goal least hg c P G rest (pre ++ [x]) (O.set x.f0.toNat (rd O c + 1)) (R ++ [x.f0]) e' hi' (fun y hy hy1 hy2 => by
      have hyl : y ∈ l := by rw [e']; exact List.mem_append.2 (Or.inl hy)
      have hyr := hd y hyl
      rw [hG' c hcr.1, if_neg hcx, hG' y.f0 hyr.1.1]
      by_cases ey : y.f0 = x.f0
      ·rw [if_pos ey]; omega
      ·rw [if_neg ey]
       rcases List.mem_append.1 hy with hy | hy
       ·exact hp y hy hy1 hy2
       ·rw [List.mem_singleton.1 hy] at ey
        exact absurd rfl ey) hk
     refine ⟨r, hG, Ev.suc ?_⟩
     have hw2 : wrap64 (rd O c + 1) = rd O c + 1 := w64 (by omega) (by omega)
     have happ : (P ++ c :: R) ++ [x.f0] = P ++ c :: (R ++ [x.f0]) := by simp
     simp only [impl_distancesTo.l1, hx, hw, hq, hw2, happ]
     exact Ev.ite_pos h1 (Ev.ite_pos (by omega) (Ev.ite_pos h1 (Ev.ite_pos (by omega) (Ev.ite_pos hql (Ev.ite_pos q1 (Ev.ite_pos q2 (Ev.ite_pos hxr.1.1 (Ev.ite_pos (by omega) (Ev.ite_pos q3 (Ev.ite_pos hcr.1 (Ev.ite_pos (by omega) (Ev.ite_pos (by omega) ih))))))))))))
    ·obtain ⟨r, hG, ih⟩ := hskip (fun _ _ => ⟨by omega, by
      have hm := (hi.mem x.f0 hxr.1.1 hxr.1.2).2 (by omega)
      exact hi.top c R rfl _ hm⟩)
     refine ⟨r, hG, Ev.suc ?_⟩
     simp only [impl_distancesTo.l1, hx, hw, hq]
     exact Ev.ite_pos h1 (Ev.ite_pos (by omega) (Ev.ite_pos h1 (Ev.ite_pos (by omega) (Ev.ite_pos hql (Ev.ite_pos q1 (Ev.ite_pos q2 (Ev.ite_pos hxr.1.1 (Ev.ite_pos (by omega) (Ev.ite_neg q3 ih)))))))))
   ·obtain ⟨r, hG, ih⟩ := hskip (fun _ h => absurd h q2)
    refine ⟨r, hG, Ev.suc ?_⟩
    simp only [impl_distancesTo.l1, hx, hw, hq]
    exact Ev.ite_pos h1 (Ev.ite_pos (by omega) (Ev.ite_pos h1 (Ev.ite_pos (by omega) (Ev.ite_pos hql (Ev.ite_pos q1 (Ev.ite_neg q2 ih))))))
  ·obtain ⟨r, hG, ih⟩ := hskip (fun h => absurd h q1)
   refine ⟨r, hG, Ev.suc ?_⟩
   simp only [impl_distancesTo.l1, hx, hw, hq]
   exact Ev.ite_pos h1 (Ev.ite_pos (by omega) (Ev.ite_pos h1 (Ev.ite_pos (by omega) (Ev.ite_pos hql (Ev.ite_neg q1 ih)))))
theorem dist_l0 (l : List S98) (hl : l.length ≤ 1048576) (hd : ∀ x ∈ l, dIn x) (goal least : Int) (hg : 0 ≤ goal ∧ goal ≤ 127) (d : Nat) : ∀ (O P T : List Int), P.length + d = 128 → QI (adjF (adjL l) least) goal O P T →
  ∃ O', (O'.length = 128 ∧ ∀ v, 0 ≤ v → v ≤ 127 → DT (adjF (adjL l) least) goal v (rd O' v) ∧ rd O' v ≤ 127) ∧ Ev (fun k => impl_distancesTo.l0 k l least O (P ++ T) (P.length : Int)) O' := by
 have hE : ∀ x y, adjF (adjL l) least x y → 0 ≤ x ∧ x ≤ 127 := fun x y h => (adjL_in hd h.1).1
 induction d with
 | zero =>
  intro O P T hd0 hi
  have hc := hi.cnt
  rw [List.length_append] at hc
  have e : T = [] := List.eq_nil_of_length_eq_zero (by omega)
  subst e
  refine ⟨O, ⟨hi.len, hi.dt hE hg⟩, Ev.suc ?_⟩
  simp only [impl_distancesTo.l0]
  exact Ev.ite_neg (by simp) (Ev.now _)
 | succ d ih =>
  intro O P T hd0 hi
  cases T with
  | nil =>
   refine ⟨O, ⟨hi.len, hi.dt hE hg⟩, Ev.suc ?_⟩
   simp only [impl_distancesTo.l0]
   exact Ev.ite_neg (by simp) (Ev.now _)
  | cons c R =>
   have hw : wrap64 ((P.length : Int) + 1) = ((P ++ [c]).length : Int) := by rw [w64 (by omega) (by omega), len_snoc]
   have hql : (P.length : Int) < ((P ++ c :: R).length : Int) := by simp only [List.length_append, List.length_cons]; omega
   obtain ⟨r, hG, hr⟩ := dist_l1 l hl hd goal least hg c P (fun O' => O'.length = 128 ∧ ∀ v, 0 ≤ v → v ≤ 127 → DT (adjF (adjL l) least) goal v (rd O' v) ∧ rd O' v ≤ 127) l [] O R rfl hi (fun x hx => by cases hx) (fun O' R' hi' hp' => by
    rw [hw, show P ++ c :: R' = (P ++ [c]) ++ R' by simp]
    exact ih O' (P ++ [c]) R' (by rw [List.length_append, List.length_singleton]; omega) (hi'.next (fun u hu => by
     obtain ⟨⟨x, hx, rfl, hx1⟩, hx2⟩ := hu
     exact hp' x hx hx1 hx2)))
   refine ⟨r, hG, Ev.suc ?_⟩
   simp only [impl_distancesTo.l0]
   exact Ev.ite_pos hql hr
theorem dist_i (l : List S98) (hl : l.length ≤ 1048576) (hd : ∀ x ∈ l, dIn x) (goal least : Int) (hg : 0 ≤ goal ∧ goal ≤ 127) :
  ∃ O, (O.length = 128 ∧ ∀ v, 0 ≤ v → v ≤ 127 → DT (adjF (adjL l) least) goal v (rd O v) ∧ rd O v ≤ 127) ∧ Ev (fun k => impl_distancesTo.f k l goal least) O := by
 have hz : ∀ v, 0 ≤ v → v ≤ 127 → rd (List.replicate 128 (-1 : Int)) v = -1 := fun v h0 h1 => by
  rw [rd_eq, List.getD_eq_getElem?_getD, List.getElem?_replicate, if_pos (by omega)]
  rfl
 have hlr : ((List.replicate 128 (-1 : Int)).length : Int) = 128 := by simp
 have hG : ∀ u, 0 ≤ u → rd ((List.replicate 128 (-1 : Int)).set goal.toNat 0) u = if u = goal then 0 else rd (List.replicate 128 (-1 : Int)) u := fun u hu => rd_setI _ goal _ u hg.1 (by omega) hu
 have hi : QI (adjF (adjL l) least) goal ((List.replicate 128 (-1 : Int)).set goal.toNat 0) [] [goal] := by
  refine ⟨by simp, fun v v0 v1 => ?_, fun v v0 v1 => ?_, fun v hv => ?_, by simp, fun c R e v hv => ?_, fun v hv => (by cases hv), ?_, ?_⟩
  ·rw [hG v v0]
   by_cases e : v = goal
   ·rw [if_pos e]
    exact ⟨by omega, by simp, fun _ => e⟩
   ·rw [if_neg e, hz v v0 v1]
    exact ⟨by omega, by simp, fun h => by omega⟩
  ·rw [hG v v0]
   by_cases e : v = goal
   ·simp [e]
   ·rw [if_neg e, hz v v0 v1]
    simp [e]
  ·rw [List.nil_append, List.mem_singleton] at hv
   rw [hv]
   exact hg
  ·injection e with e1 e2
   rw [List.nil_append, List.mem_singleton] at hv
   rw [← e1, hv]
   omega
  ·rw [hG goal hg.1, if_pos rfl]
  ·have := count_setI (List.replicate 128 (-1 : Int)) goal 0 (-1) hg.1 (by omega) (hz goal hg.1 hg.2) (by omega)
   rw [List.count_replicate_self] at this
   simp only [List.nil_append, List.length_singleton]
   omega
 obtain ⟨O, hO, hr⟩ := dist_l0 l hl hd goal least hg 128 _ [] [goal] (by simp) hi
 refine ⟨O, hO, ?_⟩
 unfold impl_distancesTo.f slices_Repeat_int_int.f
 rw [if_pos ⟨rfl, rfl⟩]
 simp only [Option.bind_some]
 exact Ev.ite_pos hg.1 (Ev.ite_pos (by omega) hr)

theorem succ_i_l0 (a : Int) : ∀ (rest pre : List S98) (acc : List Int), pre.length + rest.length ≤ 1048576 → acc.length + rest.length ≤ 1048576 → Ev (fun k => impl_SuccessorsOf.l0 k a acc (pre ++ rest) ((pre ++ rest).length : Int) (pre.length : Int)) (acc ++ su rest a)
 | [], pre, acc, _, _ => by
  refine Ev.suc ?_
  simp only [impl_SuccessorsOf.l0]
  exact Ev.ite_neg (by simp) (Ev.val (by simp [su]))
 | x :: rest, pre, acc, hl, ha => by
  simp only [List.length_cons] at hl ha
  have h1 : (pre.length : Int) < ((pre ++ x :: rest).length : Int) := by simp only [List.length_append, List.length_cons]; omega
  have hw : wrap64 ((pre.length : Int) + 1) = ((pre ++ [x]).length : Int) := by rw [w64 (by omega) (by omega), len_snoc]
  refine Ev.suc ?_
  simp only [impl_SuccessorsOf.l0, rdI_Depend, hw]
  refine Ev.ite_pos h1 (Ev.ite_pos (by omega) (Ev.ite_pos h1 (Ev.ite (fun c => Ev.ite_pos (by omega) ?_) (fun c => ?_))))
  ·have ih := succ_i_l0 a rest (pre ++ [x]) (acc ++ [x.f1]) (by simp only [List.length_append, List.length_cons, List.length_nil]; omega) (by simp only [List.length_append, List.length_cons, List.length_nil]; omega)
   rw [← snoc_app pre x rest] at ih
   exact Ev.eq ih (by rw [su_cons_pos x rest a c, List.append_assoc]; rfl)
  ·have ih := succ_i_l0 a rest (pre ++ [x]) acc (by simp only [List.length_append, List.length_cons, List.length_nil]; omega) (by omega)
   rw [← snoc_app pre x rest] at ih
   exact Ev.eq ih (by rw [su_cons_neg x rest a c])
theorem succ_i (l : List S98) (a : Int) (hl : l.length ≤ 1048576) : Ev (fun k => impl_SuccessorsOf.f k l a) (su l a) := by
 unfold impl_SuccessorsOf.f
 exact succ_i_l0 a l [] [] (by simpa using hl) (by simpa using hl)

/-- The nearest successor so far, the first of those as near. -/
def Near (fr : Int → Int) (s : Int) (S : List Int) (b : Int) : Prop := (b = -1 ∧ ∀ c ∈ S, s ≤ c → fr c < 0) ∨ (b ∈ S ∧ s ≤ b ∧ 0 ≤ fr b ∧ (∀ c ∈ S, s ≤ c → 0 ≤ fr c → fr b ≤ fr c) ∧ S.find? (okF fr s (fr b).toNat) = some b)
theorem Near.skip {fr : Int → Int} {s b u : Int} {S : List Int} (h : Near fr s S b) (hu : s ≤ u → 0 ≤ fr u → b ≠ -1 ∧ fr b ≤ fr u) (hs : 0 ≤ s) : Near fr s (S ++ [u]) b := by
 rcases h with ⟨rfl, h⟩ | ⟨h1, h2, h3, h4, h5⟩
 ·refine Or.inl ⟨rfl, fun c hc hsc => ?_⟩
  rcases List.mem_append.1 hc with hc | hc
  ·exact h c hc hsc
  ·rw [List.mem_singleton.1 hc] at hsc ⊢
   rcases Int.lt_or_le (fr u) 0 with e | e
   ·exact e
   ·exact absurd rfl (hu hsc e).1
 ·refine Or.inr ⟨List.mem_append.2 (Or.inl h1), h2, h3, fun c hc hsc hc0 => ?_, ?_⟩
  ·rcases List.mem_append.1 hc with hc | hc
   ·exact h4 c hc hsc hc0
   ·rw [List.mem_singleton.1 hc] at hsc hc0 ⊢
    exact (hu hsc hc0).2
  ·rw [List.find?_append, h5]
   rfl
theorem Near.take {fr : Int → Int} {s b u : Int} {S : List Int} (h : Near fr s S b) (hs : s ≤ u) (hu : 0 ≤ fr u) (hb : b = -1 ∨ fr u < fr b) (hs0 : 0 ≤ s) : Near fr s (S ++ [u]) u := by
 refine Or.inr ⟨List.mem_append.2 (Or.inr (List.mem_singleton.2 rfl)), hs, hu, fun c hc hsc hc0 => ?_, ?_⟩
 ·rcases List.mem_append.1 hc with hc | hc
  ·rcases h with ⟨_, h⟩ | ⟨h1, h2, h3, h4, h5⟩
   ·have := h c hc hsc
    omega
   ·have := h4 c hc hsc hc0
    rcases hb with hb | hb
    ·subst hb
     omega
    ·omega
  ·rw [List.mem_singleton.1 hc]
   omega
 ·have e : S.find? (okF fr s (fr u).toNat) = none := List.find?_eq_none.2 fun c hc hp => by
   have hp' := of_decide_eq_true hp
   rcases h with ⟨_, h⟩ | ⟨h1, h2, h3, h4, h5⟩
   ·have := h c hc hp'.1
    omega
   ·have := h4 c hc hp'.1 (by omega)
    rcases hb with hb | hb
    ·subst hb
     omega
    ·omega
  rw [List.find?_append, e]
  have hp : okF fr s (fr u).toNat u = true := decide_eq_true ⟨hs, by omega⟩
  simp only [List.find?_cons, hp, Option.none_or]
theorem Near.noneg {fr : Int → Int} {s b : Int} {S : List Int} (h : Near fr s S b) (hs : 0 ≤ s) : b = -1 ∨ 0 ≤ b := by
 rcases h with ⟨rfl, _⟩ | ⟨_, h2, _⟩
 ·exact Or.inl rfl
 ·exact Or.inr (by omega)
theorem cyc_l1 (l : List S98) (s : Int) (hs : 0 ≤ s) (O : List Int) (hO : O.length = 128) (out : List Int) (a : Int) (r : List Int) (S : List Int)
  (hk : ∀ b, Near (rd O) s S b → Ev (fun k => if b < 0 then (some ([] : List Int)) else (if out.length < 17592186044416 then ((some (out ++ [a] : List Int)).bind fun y => (if b = s then (some y) else (impl_cycleFrom.l0 k l s O y b))) else none)) r) :
  ∀ (rest pre : List Int) (b : Int), S = pre ++ rest → S.length ≤ 1048576 → (∀ u ∈ S, 0 ≤ u ∧ u ≤ 127) → Near (rd O) s pre b → Ev (fun k => impl_cycleFrom.l1 k l s O out a b S (S.length : Int) (pre.length : Int)) r
 | [], pre, b, e, hl, hr, hb => by
  rw [List.append_nil] at e
  refine Ev.suc ?_
  simp only [impl_cycleFrom.l1]
  exact Ev.ite_neg (by rw [e]; omega) (hk b (e ▸ hb))
 | u :: rest, pre, b, e, hl, hr, hb => by
  have hlen : pre.length + (rest.length + 1) = S.length := by rw [e]; simp
  have hu := hr u (by rw [e]; exact List.mem_append.2 (Or.inr List.mem_cons_self))
  have h1 : (pre.length : Int) < (S.length : Int) := by omega
  have hw : wrap64 ((pre.length : Int) + 1) = ((pre ++ [u]).length : Int) := by rw [w64 (by omega) (by omega), len_snoc]
  have hx : rd S (pre.length : Int) = u := by rw [e]; exact rd_mid pre u rest
  have e' : S = (pre ++ [u]) ++ rest := by rw [e]; simp
  have go := fun b' hb' => cyc_l1 l s hs O hO out a r S hk rest (pre ++ [u]) b' e' hl hr hb'
  have hn := hb.noneg hs
  refine Ev.suc ?_
  simp only [impl_cycleFrom.l1, hx, hw]
  refine Ev.ite_pos h1 (Ev.ite_pos (by omega) (Ev.ite_pos h1 (Ev.ite (fun q1 => Ev.ite_pos hu.1 (Ev.ite_pos (by omega) (Ev.ite (fun q2 => Ev.ite (fun q3 => go u (hb.take q1 q2 (Or.inl (by omega)) hs)) (fun q3 => ?_)) (fun q2 => go b (hb.skip (fun _ h => absurd h q2) hs))))) (fun q1 => go b (hb.skip (fun h _ => absurd h q1) hs)))))
  have hb127 : b ≤ 127 := by
   rcases hb with ⟨h, _⟩ | ⟨h, _⟩
   ·omega
   ·exact (hr b (by rw [e]; exact List.mem_append.2 (Or.inl h))).2
  exact Ev.ite_pos (by omega) (Ev.ite_pos (by omega) (Ev.ite (fun q4 => go u (hb.take q1 q2 (Or.inr q4) hs)) (fun q4 => go b (hb.skip (fun _ _ => ⟨by omega, by omega⟩) hs))))
theorem adjF_ge {adj : Int → Int → Prop} {s : Int} : ∀ {n : Nat} {c : Int}, Wk (adjF adj s) n c s → s ≤ c
 | 0, c, h => by
  have e : c = s := h
  omega
 | _ + 1, _, ⟨_, hx, _⟩ => hx.2
theorem cyc_l0 (l : List S98) (hl : l.length ≤ 1048576) (hd : ∀ x ∈ l, dIn x) (s : Int) (hs : 0 ≤ s ∧ s ≤ 127) (O : List Int) (hO : O.length = 128) (hv : ∀ v, 0 ≤ v → v ≤ 127 → DT (adjF (adjL l) s) s v (rd O v) ∧ rd O v ≤ 127) :
  ∀ (n : Nat) (out : List Int) (a : Int), 0 ≤ a → a ≤ 127 → s ≤ a → rd O a = ((n + 1 : Nat) : Int) → out.length + n ≤ 1048576 → Ev (fun k => impl_cycleFrom.l0 k l s O out a) (out ++ pathF (su l) (okF (rd O) s) (n + 1) a)
 | n, out, a, h0, h1, hsa, hn, ho => by
  have hsu := succ_i l a hl
  have ha := (hv a h0 h1).1
  have hw := ha.walk (by omega)
  rw [hn, Int.toNat_natCast] at hw
  obtain ⟨c0, hc0, hw0⟩ := hw
  have hr0 := (adjL_in hd hc0.1).2
  have hc0' := (hv c0 hr0.1 hr0.2).1.le hw0
  have hsc0 := adjF_ge hw0
  refine Ev.suc ?_
  simp only [impl_cycleFrom.l0]
  refine Ev.bind hsu (cyc_l1 l s hs.1 O hO out a _ (su l a) (fun b hb => ?_) (su l a) [] (-1) rfl (by have := su_len l a; omega) (fun u hu => (adjL_in hd ((su_mem l a u).1 hu)).2) (Or.inl ⟨rfl, fun c hc => by cases hc⟩))
  rcases hb with ⟨rfl, hb⟩ | ⟨b1, b2, b3, b4, b5⟩
  ·have := hb c0 ((su_mem l a c0).2 hc0.1) hsc0
   omega
  ·have hbr := (adjL_in hd ((su_mem l a b).1 b1)).2
   have hle := b4 c0 ((su_mem l a c0).2 hc0.1) hsc0 hc0'.1
   have hge := ha.le (Wk.cons (adj := adjF (adjL l) s) ⟨(su_mem l a b).1 b1, hsa⟩ ((hv b hbr.1 hbr.2).1.walk b3))
   have hbn : rd O b = (n : Int) := by omega
   rw [hbn, Int.toNat_natCast] at b5
   rw [pathF_some b5]
   have hlt : out.length < 17592186044416 := Nat.lt_of_le_of_lt (Nat.le_trans (Nat.le_add_right _ _) ho) (by decide)
   refine Ev.ite_neg (by omega) (Ev.ite_pos hlt ?_)
   simp only [Option.bind_some]
   cases n with
   | zero =>
    have e : b = s := by
     have h9 := (hv b hbr.1 hbr.2).1
     rw [hbn] at h9
     exact h9.zero
    exact Ev.ite_pos e (Ev.val (by simp [pathF]))
   | succ n =>
    have hne : b ≠ s := fun e => by
     have h9 := (hv b hbr.1 hbr.2).1
     rw [e] at h9 hbn
     have := h9.self
     omega
    refine Ev.ite_neg hne ?_
    have ih := cyc_l0 l hl hd s hs O hO hv n (out ++ [a]) b hbr.1 hbr.2 b2 hbn (by rw [List.length_append, List.length_singleton]; omega)
    rw [List.append_assoc] at ih
    exact ih
theorem path_len (l : List S98) (hd : ∀ x ∈ l, dIn x) (s : Int) (O : List Int) (hv : ∀ v, 0 ≤ v → v ≤ 127 → DT (adjF (adjL l) s) s v (rd O v) ∧ rd O v ≤ 127) :
  ∀ (n : Nat) (a : Int), 0 ≤ a → a ≤ 127 → s ≤ a → rd O a = (n : Int) → (pathF (su l) (okF (rd O) s) n a).length = n
 | 0, _, _, _, _, _ => rfl
 | n + 1, a, h0, h1, hsa, hn => by
  have ha := (hv a h0 h1).1
  have hw := ha.walk (by omega)
  rw [hn, Int.toNat_natCast] at hw
  obtain ⟨c0, hc0, hw0⟩ := hw
  have hr0 := (adjL_in hd hc0.1).2
  have hc0' := (hv c0 hr0.1 hr0.2).1.le hw0
  have hge := ha.le (Wk.cons hc0 ((hv c0 hr0.1 hr0.2).1.walk hc0'.1))
  obtain ⟨b, hb5, hb1, hbp⟩ := find_some (p := okF (rd O) s n) ⟨c0, (su_mem l a c0).2 hc0.1, decide_eq_true ⟨adjF_ge hw0, by omega⟩⟩
  have hbp' := of_decide_eq_true hbp
  have hbr := (adjL_in hd ((su_mem l a b).1 hb1)).2
  rw [pathF_some hb5, List.length_cons, path_len l hd s O hv n b hbr.1 hbr.2 hbp'.1 hbp'.2]
theorem cyc_len (l : List S98) (hd : ∀ x ∈ l, dIn x) (s : Int) (O : List Int) (hv : ∀ v, 0 ≤ v → v ≤ 127 → DT (adjF (adjL l) s) s v (rd O v) ∧ rd O v ≤ 127) (d : Nat) (a b : Int) (h : (su l a).find? (okF (rd O) s d) = some b) : (pathF (su l) (okF (rd O) s) (d + 1) a).length = d + 1 := by
 have hbp : okF (rd O) s d b = true := List.find?_some h
 have hbp' := of_decide_eq_true hbp
 have hbr := (adjL_in hd ((su_mem l a b).1 (List.mem_of_find?_eq_some h))).2
 rw [pathF_some h, List.length_cons, path_len l hd s O hv d b hbr.1 hbr.2 hbp'.1 hbp'.2]
/-- What 'cycleFrom' gives. -/
def CF (l : List S98) (s : Int) (P : List Int) : Prop := (P = [] ∧ ∀ n, 0 < n → ¬ Wk (adjF (adjL l) s) n s s) ∨
 (0 < P.length ∧ P.length ≤ 1048576 ∧ Wk (adjL l) P.length s s ∧ (∀ n, 0 < n → Wk (adjF (adjL l) s) n s s → P.length ≤ n) ∧ ∃ fr : Int → Int, (∀ a c, adjL l a c → DT (adjF (adjL l) s) s c (fr c)) ∧ P = pathF (su l) (okF fr s) P.length s)
theorem cyc_i (l : List S98) (hl : l.length ≤ 1048576) (hd : ∀ x ∈ l, dIn x) (s : Int) (hs : 0 ≤ s ∧ s ≤ 127) : ∃ P, Ev (fun k => impl_cycleFrom.f k l s) P ∧ CF l s P := by
 obtain ⟨O, ⟨hO, hv⟩, hOe⟩ := dist_i l hl hd s s hs
 have hsu := succ_i l s hl
 have fin : ∀ P, Ev (fun k => impl_cycleFrom.l0 k l s O [] s) P → Ev (fun k => impl_cycleFrom.f k l s) P := fun P h => by
  unfold impl_cycleFrom.f
  exact Ev.bind hOe h
 have hfr : ∀ a c, adjL l a c → DT (adjF (adjL l) s) s c (rd O c) := fun a c h => (hv c (adjL_in hd h).2.1 (adjL_in hd h).2.2).1
 by_cases hc : ∃ c, c ∈ su l s ∧ s ≤ c ∧ 0 ≤ rd O c
 ·obtain ⟨c0, hc0, hsc0, hf0⟩ := hc
  -- the least
  obtain ⟨d, ⟨c1, hc1, hsc1, hf1⟩, _, hmin⟩ := least (P := fun d => ∃ c, c ∈ su l s ∧ s ≤ c ∧ rd O c = ((d : Nat) : Int)) (rd O c0).toNat ⟨c0, hc0, hsc0, by omega⟩
  obtain ⟨b, hb5, hb1, hbp⟩ := find_some (p := okF (rd O) s d) ⟨c1, hc1, decide_eq_true ⟨hsc1, hf1⟩⟩
  have hbp' := of_decide_eq_true hbp
  have hbr := (adjL_in hd ((su_mem l s b).1 hb1)).2
  have hbl := (hv b hbr.1 hbr.2).2
  have hbw := adjF.lift ((hv b hbr.1 hbr.2).1.walk (by omega))
  rw [hbp'.2, Int.toNat_natCast] at hbw
  have hall : ∀ c ∈ su l s, s ≤ c → 0 ≤ rd O c → (d : Int) ≤ rd O c := fun c h1 h2 h3 => by
   rcases Nat.lt_or_ge (rd O c).toNat d with e | e
   ·exact absurd ⟨c, h1, h2, by omega⟩ (hmin _ e)
   ·omega
  have hlen : (pathF (su l) (okF (rd O) s) (d + 1) s).length = d + 1 ∧ Ev (fun k => impl_cycleFrom.l0 k l s O [] s) (pathF (su l) (okF (rd O) s) (d + 1) s) := by
   refine ⟨?_, ?_⟩
   ·exact cyc_len l hd s O hv d s b hb5
   ·refine Ev.suc ?_
    simp only [impl_cycleFrom.l0]
    refine Ev.bind hsu (cyc_l1 l s hs.1 O hO [] s _ (su l s) (fun b' hb' => ?_) (su l s) [] (-1) rfl (by have := su_len l s; omega) (fun u hu => (adjL_in hd ((su_mem l s u).1 hu)).2) (Or.inl ⟨rfl, fun c hc => by cases hc⟩))
    rcases hb' with ⟨rfl, hb'⟩ | ⟨k1, k2, k3, k4, k5⟩
    ·have := hb' b hb1 hbp'.1
     omega
    ·have e1 := k4 b hb1 hbp'.1 (by omega)
     have e2 := hall b' k1 k2 k3
     have e3 : rd O b' = (d : Int) := by omega
     rw [e3, Int.toNat_natCast, hb5] at k5
     obtain rfl : b = b' := Option.some.inj k5
     rw [pathF_some hb5]
     refine Ev.ite_neg (by omega) (Ev.ite_pos (by decide) ?_)
     simp only [Option.bind_some]
     cases d with
     | zero =>
      have e : b = s := by
       have h9 := (hv b hbr.1 hbr.2).1
       rw [e3] at h9
       exact h9.zero
      exact Ev.ite_pos e (Ev.val (by simp [pathF]))
     | succ d =>
      have hne : b ≠ s := fun e => by
       have h9 := (hv b hbr.1 hbr.2).1
       rw [e] at h9 e3
       have := h9.self
       omega
      refine Ev.ite_neg hne ?_
      have := cyc_l0 l hl hd s hs O hO hv d ([] ++ [s]) b hbr.1 hbr.2 k2 e3 (by simp; omega)
      exact this
  refine ⟨_, fin _ hlen.2, Or.inr ?_⟩
  rw [hlen.1]
  refine ⟨by omega, by omega, Wk.cons ((su_mem l s b).1 hb1) hbw, fun n hn hw => ?_, rd O, hfr, rfl⟩
  obtain ⟨m, rfl⟩ : ∃ m, n = m + 1 := ⟨n - 1, by omega⟩
  obtain ⟨c, hc, hw⟩ := hw
  have hcr := (adjL_in hd hc.1).2
  have h9 := (hv c hcr.1 hcr.2).1.le hw
  have := hall c ((su_mem l s c).2 hc.1) (adjF_ge hw) h9.1
  omega
 ·refine ⟨[], fin _ (Ev.suc ?_), Or.inl ⟨rfl, fun n hn hw => ?_⟩⟩
  ·simp only [impl_cycleFrom.l0]
   refine Ev.bind hsu (cyc_l1 l s hs.1 O hO [] s _ (su l s) (fun b hb => ?_) (su l s) [] (-1) rfl (by have := su_len l s; omega) (fun u hu => (adjL_in hd ((su_mem l s u).1 hu)).2) (Or.inl ⟨rfl, fun c hc => by cases hc⟩))
   rcases hb with ⟨rfl, _⟩ | ⟨k1, k2, k3, _⟩
   ·exact Ev.ite_pos (by omega) (Ev.now _)
   ·exact absurd ⟨b, k1, k2, k3⟩ hc
  ·obtain ⟨m, rfl⟩ : ∃ m, n = m + 1 := ⟨n - 1, by omega⟩
   obtain ⟨c, hc1, hw⟩ := hw
   have hcr := (adjL_in hd hc1.1).2
   exact hc ⟨c, (su_mem l s c).2 hc1.1, adjF_ge hw, ((hv c hcr.1 hcr.2).1.le hw).1⟩
/-- What is known of the starts below x. -/
def SO (l : List S98) (x : Int) (out : List Int) : Prop := (out = [] ∧ ∀ s, 0 ≤ s → s < x → ∀ n, 0 < n → ¬ Wk (adjF (adjL l) s) n s s) ∨
 ∃ s0, out ≠ [] ∧ 0 ≤ s0 ∧ s0 < x ∧ CF l s0 out ∧ (∀ s n, 0 ≤ s → s < x → 0 < n → Wk (adjF (adjL l) s) n s s → out.length ≤ n) ∧ (∀ s n, 0 ≤ s → s < s0 → 0 < n → Wk (adjF (adjL l) s) n s s → out.length < n)
theorem CF.nil {l : List S98} {s : Int} (h : CF l s []) : ∀ n, 0 < n → ¬ Wk (adjF (adjL l) s) n s s := by
 rcases h with ⟨_, h⟩ | ⟨h, _⟩
 ·exact h
 ·simp at h
theorem CF.min {l : List S98} {s : Int} {P : List Int} (h : CF l s P) (hP : P ≠ []) : ∀ n, 0 < n → Wk (adjF (adjL l) s) n s s → P.length ≤ n := by
 rcases h with ⟨h, _⟩ | ⟨_, _, _, h, _⟩
 ·exact absurd h hP
 ·exact h
theorem SO.skip {l : List S98} {x : Int} {out : List Int} (h : SO l x out) (hx : ∀ n, 0 < n → Wk (adjF (adjL l) x) n x x → out ≠ [] ∧ out.length ≤ n) : SO l (x + 1) out := by
 rcases h with ⟨rfl, h⟩ | ⟨s0, h1, h2, h3, h4, h5, h6⟩
 ·refine Or.inl ⟨rfl, fun s hs0 hs n hn hw => ?_⟩
  by_cases e : s = x
  ·subst e
   exact (hx n hn hw).1 rfl
  ·exact h s hs0 (by omega) n hn hw
 ·refine Or.inr ⟨s0, h1, h2, by omega, h4, fun s n hs0 hs hn hw => ?_, h6⟩
  by_cases e : s = x
  ·subst e
   exact (hx n hn hw).2
  ·exact h5 s n hs0 (by omega) hn hw
theorem SO.take {l : List S98} {x : Int} {out own : List Int} (h : SO l x out) (h0 : 0 ≤ x) (hc : CF l x own) (hn : own ≠ []) (hlt : out = [] ∨ own.length < out.length) : SO l (x + 1) own := by
 have hlow : ∀ s n, 0 ≤ s → s < x → 0 < n → Wk (adjF (adjL l) s) n s s → own.length < n := fun s n s0 hs hn0 hw => by
  rcases h with ⟨rfl, h⟩ | ⟨_, h1, h2, h3, h4, h5, h6⟩
  ·exact absurd hw (h s s0 hs n hn0)
  ·have := h5 s n s0 hs hn0 hw
   rcases hlt with e | e
   ·exact absurd e h1
   ·omega
 refine Or.inr ⟨x, hn, h0, by omega, hc, fun s n s0 hs hn0 hw => ?_, hlow⟩
 by_cases e : s = x
 ·subst e
  exact hc.min hn n hn0 hw
 ·have := hlow s n s0 (by omega) hn0 hw
  omega
theorem SO.short {l : List S98} (hd : ∀ x ∈ l, dIn x) {out : List Int} (h : SO l 128 out) : IsShort l out := by
 have back : ∀ s g, Girth (adjL l) s g → Wk (adjF (adjL l) s) g s s := fun s g hG => hG.restrict g 0 s rfl hG.wk (by omega)
 rcases h with ⟨rfl, h⟩ | ⟨s0, h1, h2, h3, h4, h5, h6⟩
 ·refine Or.inl ⟨rfl, fun c n hn hw => ?_⟩
  obtain ⟨s, g, hG⟩ := girth_ex hd hn hw
  have hr := wk_in hd hG.pos hG.wk
  exact h s hr.1 (by omega) g hG.pos (back s g hG)
 ·rcases h4 with ⟨e, _⟩ | ⟨k1, k2, k3, k4, fr, k5, k6⟩
  ·exact absurd e h1
  ·obtain ⟨s, g, hG⟩ := girth_ex hd k1 k3
   have hr := wk_in hd hG.pos hG.wk
   have a1 := h5 s g hr.1 (by omega) hG.pos (back s g hG)
   have a2 := hG.least s0 _ k1 k3
   have e : s = s0 := by
    rcases Int.lt_trichotomy s s0 with e | e | e
    ·have := h6 s g hr.1 e hG.pos (back s g hG)
     omega
    ·exact e
    ·have := hG.first s0 _ e k1 k3
     omega
   subst e
   have e2 : out.length = g := by omega
   rw [e2] at k6
   exact Or.inr ⟨s, g, fr, hG, k5, k6⟩
theorem shortI_l0 (l : List S98) (hl : l.length ≤ 1048576) (hd : ∀ x ∈ l, dIn x) : ∀ (d : Nat) (x : Int) (out : List Int), 0 ≤ x → 128 - x = (d : Int) → SO l x out → ∃ P, SO l 128 P ∧ Ev (fun k => impl_ShortestCycle.l0 k l out x) P
 | 0, x, out, h0, hx, hi => by
  have e : x = 128 := by omega
  subst e
  refine ⟨out, hi, Ev.suc ?_⟩
  simp only [impl_ShortestCycle.l0]
  exact Ev.ite_neg (by omega) (Ev.now _)
 | d + 1, x, out, h0, hx, hi => by
  have hw : wrap64 (x + 1) = x + 1 := w64 (by omega) (by omega)
  have go := fun out' hi' => shortI_l0 l hl hd d (x + 1) out' (by omega) (by omega) hi'
  obtain ⟨own, ho, hc⟩ := cyc_i l hl hd x ⟨h0, by omega⟩
  by_cases q1 : own = []
  ·obtain ⟨P, hP, hr⟩ := go out (hi.skip (fun n hn hw2 => absurd hw2 ((q1 ▸ hc).nil n hn)))
   refine ⟨P, hP, Ev.suc ?_⟩
   simp only [impl_ShortestCycle.l0, hw]
   exact Ev.ite_pos (by omega) (Ev.bind ho (Ev.ite_pos q1 hr))
  ·by_cases q2 : out = []
   ·obtain ⟨P, hP, hr⟩ := go own (hi.take h0 hc q1 (Or.inl q2))
    refine ⟨P, hP, Ev.suc ?_⟩
    simp only [impl_ShortestCycle.l0, hw]
    exact Ev.ite_pos (by omega) (Ev.bind ho (Ev.ite_neg q1 (Ev.ite_pos q2 hr)))
   ·by_cases q3 : own.length < out.length
    ·obtain ⟨P, hP, hr⟩ := go own (hi.take h0 hc q1 (Or.inr q3))
     refine ⟨P, hP, Ev.suc ?_⟩
     simp only [impl_ShortestCycle.l0, hw]
     exact Ev.ite_pos (by omega) (Ev.bind ho (Ev.ite_neg q1 (Ev.ite_neg q2 (Ev.ite_pos (by omega) hr))))
    ·obtain ⟨P, hP, hr⟩ := go out (hi.skip (fun n hn hw2 => ⟨q2, by have := hc.min q1 n hn hw2; omega⟩))
     refine ⟨P, hP, Ev.suc ?_⟩
     simp only [impl_ShortestCycle.l0, hw]
     exact Ev.ite_pos (by omega) (Ev.bind ho (Ev.ite_neg q1 (Ev.ite_neg q2 (Ev.ite_neg (by omega) hr))))
theorem ShortestCycle_i (l : List S98) (hl : l.length ≤ 1048576) : ∃ P, Ev (fun k => impl_ShortestCycle.f k l) P ∧ (if dAll l = true then IsShort l P else P = []) := by
 have hok := DependsOk_i l hl
 by_cases h : dAll l = true
 ·have hd := dAll_in l h
  rw [h] at hok
  obtain ⟨P, hP, hr⟩ := shortI_l0 l hl hd 128 0 [] (by omega) (by omega) (Or.inl ⟨rfl, fun s h0 h1 => by omega⟩)
  refine ⟨P, ?_, by rw [if_pos h]; exact hP.short hd⟩
  unfold impl_ShortestCycle.f
  exact Ev.bind hok (Ev.ite_pos rfl hr)
 ·refine ⟨[], ?_, by rw [if_neg h]⟩
  unfold impl_ShortestCycle.f
  exact Ev.bind hok (Ev.ite_neg h (Ev.now _))
/-- What is told of dependencies: an order, or a shortest cycle. -/
def Jud (l : List S98) (v : Int × List Int × List Int) : Prop := (∃ R, RI l 128 R ∧ v = (1, R, [])) ∨ (∃ P, IsShort l P ∧ P ≠ [] ∧ (∃ a n, 0 < n ∧ Wk (adjL l) n a a) ∧ v = (2, [], P))
theorem short_len {l : List S98} (hd : ∀ x ∈ l, dIn x) {P : List Int} (h : IsShort l P) : P.length ≤ 128 := by
 rcases h with ⟨rfl, _⟩ | ⟨s, g, fr, hG, hf, rfl⟩
 ·simp
 ·obtain ⟨h1, _, _⟩ := hG.path (su_mem l) hf g 0 s (by omega) rfl hG.wk
  rw [h1]
  exact girth_le hd hG
theorem Jud.len {l : List S98} (hd : ∀ x ∈ l, dIn x) {v : Int × List Int × List Int} (h : Jud l v) : v.2.1.length ≤ 128 ∧ v.2.2.length ≤ 128 := by
 rcases h with ⟨R, hR, rfl⟩ | ⟨P, hP, _, _, rfl⟩
 ·exact ⟨Nat.le_of_eq hR.len, by simp⟩
 ·exact ⟨by simp, short_len hd hP⟩
/-- The two ways of an order that was looked for. -/
theorem judge {l : List S98} (hd : ∀ x ∈ l, dIn x) {r : List Int × Bool} {P : List Int} (ho : Ord l 128 (List.replicate 128 (-1)) r) (hs : IsShort l P) : ∃ v, Jud l v ∧ ∀ (f : Nat → Option (List Int × Bool)) (g : Nat → Option (List Int)), Ev f r → Ev g P → Ev (fun k => (f k).bind fun bt => (if bt.2 = true then (some ((1 : Int), bt.1, ([] : List Int))) else ((g k).bind fun t => (some ((2 : Int), ([] : List Int), t))))) v := by
 rcases ho.good hd (RI.start hd) (by omega) with ⟨h1, h2⟩ | ⟨rfl, a, n, hn0, hw⟩
 ·exact ⟨(1, r.1, []), Or.inl ⟨r.1, h2, rfl⟩, fun f g hf hg => Ev.bind hf (Ev.ite_pos h1 (Ev.now _))⟩
 ·refine ⟨(2, [], P), Or.inr ⟨P, hs, fun e => ?_, ⟨a, n, hn0, hw⟩, rfl⟩, fun f g hf hg => Ev.bind hf (Ev.ite_neg (by simp) (Ev.bind hg (Ev.now _)))⟩
  subst e
  rcases hs with ⟨_, h⟩ | ⟨s, g, fr, hG, hf, e⟩
  ·exact h a n hn0 hw
  ·obtain ⟨h1, _, _⟩ := hG.path (su_mem l) hf g 0 s (by omega) rfl hG.wk
   rw [← e] at h1
   have := hG.pos
   simp only [List.length_nil] at h1
   omega
theorem judged_i (l : List S98) (ha : dAll l = true) (hl : l.length ≤ 1048576) : ∃ v, Jud l v ∧ Ev (fun k => impl_judged.f k l) v := by
 have hd := dAll_in l ha
 obtain ⟨r, eo, ho⟩ := OrderOf_i l hl
 obtain ⟨P, es, hs⟩ := ShortestCycle_i l hl
 rw [if_pos ha] at ho hs
 obtain ⟨v, hv, hk⟩ := judge hd ho hs
 exact ⟨v, hv, hk _ _ eo es⟩

/-- What is told of a table. -/
def Chk (w h : Int) (br ps : List Int) (v : Int × List Int × List Int) : Prop := (¬ tableOk w h br ps ∧ v = (0, [], [])) ∨ (tableOk w h br ps ∧ ∃ l, dAll l = true ∧ (∀ n : Nat, (n : Int) = ncR w h → ∀ y, y ∈ l ↔ y ∈ depTo w h br ps n (n * n)) ∧ Jud l v)
theorem Chk.len {w h : Int} {br ps : List Int} {v : Int × List Int × List Int} (k : Chk w h br ps v) : v.2.1.length ≤ 128 ∧ v.2.2.length ≤ 128 := by
 rcases k with ⟨_, rfl⟩ | ⟨_, l, ha, _, hj⟩
 ·simp
 ·exact hj.len (dAll_in l ha)

theorem checkTable_i (w h : Int) (br ps : List Int) (hbr : br.length < 1152921504606846976) : ∃ v, Chk w h br ps v ∧ Ev (fun k => impl_CheckTable.f k w h br ps) v := by
 obtain ⟨b, hb, hb2⟩ := TableOk_i w h br ps hbr
 obtain ⟨l, ha, hl, li, _, hm⟩ := depOf_i w h br ps hbr
 unfold impl_CheckTable.f
 by_cases ht : tableOk w h br ps
 ·obtain ⟨v, hv, vi⟩ := judged_i l ha (by omega)
  exact ⟨v, Or.inr ⟨ht, l, ha, hm ht, hv⟩, Ev.bind hb (Ev.ite_pos (hb2.2 ht) (Ev.bind li (Ev.bind vi (Ev.now _))))⟩
 ·exact ⟨_, Or.inl ⟨ht, rfl⟩, Ev.bind hb (Ev.ite_neg (fun e => ht (hb2.1 e)) (Ev.now _))⟩

theorem isord_l0 (P : List Int) (hP : P.length = 128) (h : ∀ q, 0 ≤ q → q < 128 → q ∈ P) : ∀ (d : Nat) (x : Int), 0 ≤ x → 128 - x = (d : Int) → Ev (fun k => impl_IsOrder.l0 k P x) true
 | 0, x, h0, hx => by
  refine Ev.suc ?_
  simp only [impl_IsOrder.l0]
  exact Ev.ite_neg (by omega) (Ev.now _)
 | d + 1, x, h0, hx => by
  have hw : wrap64 (x + 1) = x + 1 := w64 (by omega) (by omega)
  have ih := isord_l0 P hP h d (x + 1) (by omega) (by omega)
  have hc := Contains_i P x (by omega)
  rw [decide_eq_true (h x h0 (by omega))] at hc
  refine Ev.suc ?_
  simp only [impl_IsOrder.l0, hw]
  exact Ev.ite_pos (by omega) (Ev.bind hc (Ev.ite_pos rfl ih))
theorem isord_l1 (l : List S98) (hd : ∀ x ∈ l, dIn x) (hl : l.length ≤ 1048576) (P : List Int) (hP : P.length = 128) (h : ∀ x ∈ l, rd P x.f0 < rd P x.f1) : ∀ (rest pre : List S98), l = pre ++ rest → Ev (fun k => impl_IsOrder.l1 k l P (pre.length : Int)) (-1)
 | [], pre, e => by
  refine Ev.suc ?_
  simp only [impl_IsOrder.l1]
  exact Ev.ite_neg (by rw [e]; simp) (Ev.now _)
 | x :: rest, pre, e => by
  have hlen : pre.length + (rest.length + 1) = l.length := by rw [e]; simp
  have hxm : x ∈ l := by rw [e]; exact List.mem_append.2 (Or.inr List.mem_cons_self)
  have hxr := hd x hxm
  have hw : wrap64 ((pre.length : Int) + 1) = ((pre ++ [x]).length : Int) := by rw [w64 (by omega) (by omega), len_snoc]
  have hx : rd_T98 l (pre.length : Int) = x := by rw [e]; exact rdI_Depend pre x rest
  have ih := isord_l1 l hd hl P hP h rest (pre ++ [x]) (by rw [e]; simp)
  have hlt := h x hxm
  refine Ev.suc ?_
  simp only [impl_IsOrder.l1, hx, hw]
  exact Ev.ite_pos (by omega) (Ev.ite_pos (by omega) (Ev.ite_pos hxr.1.1 (Ev.ite_pos (by omega) (Ev.ite_pos hxr.2.1 (Ev.ite_pos (by omega) (Ev.ite_neg (by omega) ih))))))
theorem mem_of_rd {P : List Int} {c q : Int} (h0 : 0 ≤ c) (h1 : c < (P.length : Int)) (h : rd P c = q) : q ∈ P := by
 have hlt : c.toNat < P.length := by omega
 rw [rd_eq, List.getD_eq_getElem?_getD, List.getElem?_eq_getElem hlt] at h
 have e : P[c.toNat] = q := h
 exact e ▸ List.getElem_mem hlt
/-- Each channel has a rank. -/
theorem RI.full {l : List S98} {R : List Int} (h : RI l 128 R) (c : Int) (h0 : 0 ≤ c) (h1 : c ≤ 127) : 0 ≤ rd R c := by
 have hv := h.val c h0 h1
 have hc0 : R.count (-1) = 0 := by have := h.cnt; omega
 have hl := h.len
 have hne : rd R c ≠ -1 := fun e => by
  have : 0 < R.count (-1) := List.count_pos_iff.2 (mem_of_rd h0 (by omega) e)
  omega
 omega
theorem IsOrder_i (l : List S98) (hl : l.length ≤ 1048576) (ha : dAll l = true) (R : List Int) (h : RI l 128 R) : Ev (fun k => impl_IsOrder.f k l R) true := by
 have hok := DependsOk_i l hl
 have hd := dAll_in l ha
 have hR := h.len
 rw [ha] at hok
 unfold impl_IsOrder.f
 refine Ev.bind hok (Ev.ite_pos rfl (Ev.ite_pos (by omega) (Ev.bind (isord_l0 R hR (fun q q0 q1 => ?_) 128 0 (by omega) (by omega)) (Ev.ite_pos rfl (Ev.bind (isord_l1 l hd hl R hR (fun x hx => ?_) l [] rfl) (Ev.val (by simp)))))))
 ·obtain ⟨c, hc, e⟩ := h.all q q0 q1
  exact mem_of_rd hc.1 (by omega) e
 ·have hxr := hd x hx
  exact (h.rise x hx (h.full x.f1 hxr.2.1 hxr.2.2)).2

theorem hasD_iff (a b : Int) : ∀ (l : List S98), hasD a b l = true ↔ adjL l a b
 | [] => ⟨fun h => (by cases h), fun h => (by obtain ⟨x, hx, _⟩ := h; cases hx)⟩
 | x :: l => by
  rw [hasD_cons, Bool.or_eq_true, Bool.and_eq_true, decide_eq_true_eq, decide_eq_true_eq, hasD_iff a b l]
  constructor
  ·rintro (⟨h1, h2⟩ | ⟨y, hy, h1, h2⟩)
   ·exact ⟨x, List.mem_cons_self, h1, h2⟩
   ·exact ⟨y, List.mem_cons_of_mem _ hy, h1, h2⟩
  ·rintro ⟨y, hy, h1, h2⟩
   rcases List.mem_cons.1 hy with rfl | hy
   ·exact Or.inl ⟨h1, h2⟩
   ·exact Or.inr ⟨y, hy, h1, h2⟩
theorem rd_lt (P : List Int) (j : Nat) (h : j < P.length) : rd P (j : Int) = P[j] := by
 rw [rd_eq, Int.toNat_natCast, List.getD_eq_getElem?_getD, List.getElem?_eq_getElem h]
 rfl
/-- A shortest cycle, channel by channel. -/
structure Cyc (l : List S98) (P : List Int) : Prop where
 pos : 0 < P.length
 le : P.length ≤ 128
 rng : ∀ j : Nat, j < P.length → 0 ≤ rd P (j : Int) ∧ rd P (j : Int) ≤ 127
 ge : ∀ j : Nat, j < P.length → rd P 0 ≤ rd P (j : Int)
 pd : ∀ j : Nat, j < P.length → PD (adjL l) (rd P (j : Int)) (rd P (j : Int)) P.length
 least : ∀ c n, 0 < n → Wk (adjL l) n c c → P.length ≤ n
 nod : P.Nodup
 adj : ∀ j : Nat, j < P.length → adjL l (rd P (j : Int)) (rd P (((j + 1) % P.length : Nat) : Int))
theorem cyc_of {l : List S98} (hd : ∀ x ∈ l, dIn x) {s : Int} {g : Nat} {fr : Int → Int} (hG : Girth (adjL l) s g) (hf : ∀ a c, adjL l a c → DT (adjF (adjL l) s) s c (fr c)) : Cyc l (pathF (su l) (okF fr s) g s) := by
 obtain ⟨h1, h2, h3⟩ := hG.path (su_mem l) hf g 0 s (by omega) rfl hG.wk
 have hn := path_nodup hG hf
 generalize pathF (su l) (okF fr s) g s = P at *
 have hp := hG.pos
 have e : ∀ j : Nat, j < P.length → P.getD j s = rd P (j : Int) := fun j hj => by rw [getD_lt P j s hj, rd_lt P j hj]
 have e0 : rd P 0 = s := by
  have := e 0 (by omega)
  rw [← h2]
  exact this.symm
 refine ⟨by omega, by rw [h1]; exact girth_le hd hG, fun j hj => ?_, fun j hj => ?_, fun j hj => ?_, fun c n hn0 hw => by rw [h1]; exact hG.least c n hn0 hw, hn, fun j hj => ?_⟩
 ·have a := (h3 j (by omega)).2.2
  rw [e j hj] at a
  exact (adjL_in hd a).1
 ·have a := h3 j (by omega)
  rw [e j hj, Nat.zero_add] at a
  rw [e0]
  exact hG.on a.1 a.2.1 (by omega)
 ·have a := h3 j (by omega)
  rw [e j hj, Nat.zero_add] at a
  refine ⟨by omega, ?_, fun i hi hil hw => ?_⟩
  ·have := Wk.append a.1 a.2.1
   rw [show g - j + j = P.length by omega] at this
   exact this
  ·have := hG.least _ i hi hw
   omega
 ·have a := (h3 j (by omega)).2.2
  rw [e j hj] at a
  rcases Nat.lt_or_ge (j + 1) P.length with q | q
  ·rw [e (j + 1) q] at a
   rw [Nat.mod_eq_of_lt q]
   exact a
  ·have e1 : j + 1 = P.length := by omega
   rw [e1, Nat.mod_self]
   have e2 : P.getD (j + 1) s = s := by
    rw [List.getD_eq_getElem?_getD, List.getElem?_eq_none (by omega)]
    rfl
   rw [e2] at a
   show adjL l _ (rd P 0)
   rw [e0]
   exact a
theorem cyc_go {l : List S98} {P : List Int} (h : Cyc l P) : ∀ (d i : Nat), i + d = P.length → cyGo l P d i = true
 | 0, i, _ => rfl
 | d + 1, i, hi => by
  rw [cyGo_succ, cyc_go h d (i + 1) (by omega), (hasD_iff _ _ l).2 (h.adj i (by omega))]
  have hn : ¬ rd P (i : Int) ∈ P.take i := fun hm => by
   rw [rd_lt P i (by omega)] at hm
   obtain ⟨j, hj, e⟩ := List.getElem_of_mem hm
   rw [List.length_take] at hj
   rw [List.getElem_take] at e
   exact List.pairwise_iff_getElem.1 h.nod j i (by omega) (by omega) (by omega) e
  rw [decide_eq_false hn]
  rfl

theorem Ev.unique {α : Type} {g : Nat → Option α} {a b : α} (h : Ev g a) (k : Ev g b) : a = b := by
 obtain ⟨m, hm⟩ := h
 obtain ⟨n, hn⟩ := k
 exact Option.some.inj ((hm (m + n) (by omega)).symm.trans (hn (m + n) (by omega)))
theorem Jud.cyc {l : List S98} (hd : ∀ x ∈ l, dIn x) {P : List Int} (h : IsShort l P) (hne : P ≠ []) : Cyc l P := by
 rcases h with ⟨e, _⟩ | ⟨s, g, fr, hG, hf, rfl⟩
 ·exact absurd e hne
 ·exact cyc_of hd hG hf
/-- A verdict that is told of a table is proved by both. -/
theorem ProvesVerdict_chk (w h : Int) (br ps : List Int) (v : Int × List Int × List Int) (hbr : br.length < 1152921504606846976) (hv : Chk w h br ps v) : Ev (fun k => spec_ProvesVerdict.f k w h br ps v.1 v.2.1 v.2.2) true ∧ Ev (fun k => impl_ProvesVerdict.f k w h br ps v.1 v.2.1 v.2.2) true ∧ ∃ b, Ev (fun k => impl_TableOk.f k w h br ps) b ∧ (b = true ↔ ¬ v.1 = 0) ∧ (v.1 = 0 ∨ v.1 = 1 ∨ v.1 = 2) := by
 obtain ⟨b, hb, hb2⟩ := TableOk_i w h br ps hbr
 obtain ⟨b', hc, hc2⟩ := TableOk_s w h br ps hbr
 obtain rfl : b' = b := by rw [Bool.eq_iff_iff, hb2, hc2]
 obtain ⟨l, ha, hl, ls, li, _, hm⟩ := depOf w h br ps hbr
 unfold spec_ProvesVerdict.f impl_ProvesVerdict.f
 rcases hv with ⟨ht, rfl⟩ | ⟨ht, l', ha', hm', hj⟩
 ·dsimp only
  have e : b' = false := by
   cases b' with
   | false => rfl
   | true => exact absurd (hb2.1 rfl) ht
  subst e
  exact ⟨Ev.bind hc (Ev.bind ls (Ev.ite_pos rfl (Ev.ite_neg (by decide) (Ev.ite_pos rfl (Ev.val (by decide)))))), Ev.bind hb (Ev.ite_neg (by decide) (Ev.ite_neg (by decide) (Ev.ite_pos rfl (Ev.ite_neg (by decide) (Ev.ite_pos rfl (Ev.val (by decide))))))), false, hb, ⟨fun h_ => (by cases h_), fun h_ => absurd rfl h_⟩, Or.inl rfl⟩
 ·have e : b' = true := hb2.2 ht
  subst e
  have hnb := ncR_b w h
  have hn : (((ncR w h).toNat : Nat) : Int) = ncR w h := by omega
  obtain rfl : l' = l := dAll_ext l' l ha' ha (fun y => by rw [hm' _ hn y, hm ht _ hn y])
  have hd := dAll_in l' ha
  rcases hj with ⟨R, hR, rfl⟩ | ⟨P, hP, hne, _, rfl⟩
  ·dsimp only
   have oi := IsOrder_i l' (by omega) ha R hR
   obtain ⟨o, os, oi'⟩ := IsOrder_b l' ha (by omega) R
   obtain rfl : true = o := Ev.unique oi oi'
   exact ⟨Ev.bind hc (Ev.bind ls (Ev.ite_neg (by decide) (Ev.ite_pos rfl (Ev.ite_pos rfl (Ev.bind os (Ev.ite_pos rfl (Ev.val (by decide)))))))), Ev.bind hb (Ev.ite_pos rfl (Ev.ite_pos rfl (Ev.bind li (Ev.bind oi (Ev.ite_pos rfl (Ev.val (by decide))))))), true, hb, ⟨fun _ => by decide, fun _ => rfl⟩, Or.inr (Or.inl rfl)⟩
  ·dsimp only
   have hC := Jud.cyc hd hP hne
   have hlen := hC.le
   have hpos := hC.pos
   have os := IsCycle_s l' P (by omega) (by omega)
   have oi := IsCycle_i l' P (by omega) (by omega)
   rw [ha, cyc_go hC P.length 0 (by omega), decide_eq_true (show ((P.length : Int) > 0) by omega)] at os oi
   exact ⟨Ev.bind hc (Ev.bind ls (Ev.ite_neg (by decide) (Ev.ite_neg (by decide) (Ev.ite_pos rfl (Ev.ite_pos rfl (Ev.bind os (Ev.ite_pos rfl (Ev.val (by decide))))))))), Ev.bind hb (Ev.ite_neg (by decide) (Ev.ite_pos rfl (Ev.ite_pos rfl (Ev.bind li (Ev.bind oi (Ev.ite_pos rfl (Ev.val (by decide)))))))), true, hb, ⟨fun _ => by decide, fun _ => rfl⟩, Or.inr (Or.inr rfl)⟩

theorem toList_loop_ne (b : ByteArray) : ∀ (d i : Nat) (r : List UInt8), b.size - i ≤ d → r ≠ [] → ByteArray.toList.loop b i r ≠ []
 | 0, i, r, h, hr => by
  rw [ByteArray.toList.loop, if_neg (by omega)]
  simpa using hr
 | d + 1, i, r, h, hr => by
  rw [ByteArray.toList.loop]
  by_cases q : i < b.size
  ·rw [if_pos q]
   exact toList_loop_ne b d (i + 1) _ (by omega) (by simp)
  ·rw [if_neg q]
   simpa using hr
theorem toList_ne (b : ByteArray) (h : 0 < b.size) : ¬ b.toList = ([] : List UInt8) := by
 unfold ByteArray.toList
 rw [ByteArray.toList.loop, if_pos h]
 exact toList_loop_ne b b.size _ _ (by omega) (by simp)
theorem FnVerdicts : FnVerdicts_says := by
 intro b hl
 refine Ev.rounds ?_
 unfold laws_FnVerdicts.f
 simp only [big_f, Option.bind_some]
 refine Ev.ite (fun _ => Ev.now _) (fun hbig => ?_)
 simp only [decide_eq_true_eq] at hbig
 obtain ⟨w, h, br, ps, e1, hbr⟩ := DrawCheckTable_f b (by omega)
 obtain ⟨v, hv, e2⟩ := checkTable_i w h br ps (by omega)
 obtain ⟨p1, p2, t, e3, ht, hc⟩ := ProvesVerdict_chk w h br ps v (by omega) hv
 refine Ev.bind e1 (Ev.bind e2 (Ev.bind p2 (Ev.ite_pos rfl (Ev.bind p1 (Ev.ite_pos rfl ?_)))))
 have fin : ((v.1 == 0) == (!t)) = true := by
  by_cases q : v.1 = 0
  ·have : t = false := by
    cases t with
    | false => rfl
    | true => exact absurd q (ht.1 rfl)
   rw [this, q]
   rfl
  ·rw [ht.2 q, beq_eq_false_iff_ne.mpr q]
   rfl
 rcases hc with hc | hc | hc
 ·exact Ev.bindS (show impl_VerdictName.f v.1 = some ⟨#[98, 97, 100]⟩ by rw [hc]; rfl) (Ev.ite_neg (toList_ne _ (by decide)) (Ev.bind e3 (Ev.val fin)))
 ·exact Ev.bindS (show impl_VerdictName.f v.1 = some ⟨#[115, 97, 102, 101]⟩ by rw [hc]; rfl) (Ev.ite_neg (toList_ne _ (by decide)) (Ev.bind e3 (Ev.val fin)))
 ·exact Ev.bindS (show impl_VerdictName.f v.1 = some ⟨#[99, 121, 99, 108, 105, 99]⟩ by rw [hc]; rfl) (Ev.ite_neg (toList_ne _ (by decide)) (Ev.bind e3 (Ev.val fin)))

end Go.Proofs.YtimdefbpoddoaaaGreat.Pure
