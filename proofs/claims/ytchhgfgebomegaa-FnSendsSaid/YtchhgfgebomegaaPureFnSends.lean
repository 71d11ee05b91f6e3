/- The plain statement of the law FnSends: packets with different Ids that are sent into a new network wait there, all their flits and nothing else. No condition. -/
import Derived.Test.YtchhgfgebomegaaPFnSendsx
import Derived.Test.YtchhgfgebomegaaU
import Derived.Test.YtchhgfgebomegaaSaysFnSends
namespace Go.Proofs.Ytchhgfgebomegaa.Pure
open Go.RowKit Go.Proofs.Ytchhgfgebomegaa.PFnSends Go.Proofs.YtchhgfgebomegaaW.PrintWords Go.Proofs.YtchhgfgebomegaaW.PrintLast Go.Proofs.YtchhgfgebomegaaW.PrintMore Go.Proofs.Ytchhgfgebomegaa.U
set_option linter.unusedVariables false
set_option linter.unusedSimpArgs false

/-! ### big -/
theorem big_f (b : List Int) : laws_big.f b = some (decide ((b.length : Int) > 1048576)) := rfl

/-! ### cur -/
def CurOk (b : List Int) (i : Int) : Prop := 0 ≤ i ∧ i ≤ (b.length : Int) ∧ b.length ≤ 140737488351232
theorem l01New_l0 (b : List Int) (hb : b.length ≤ 140737488351232) : ∀ (d : Nat) (i h : Int), 0 ≤ i → i ≤ (b.length : Int) → (b.length : Int) - i = d → ∃ h', Ev (fun k => spec_l01New.l0 k b h i) (b, 0, h')
  | 0, i, h, h0, h1, hd => ⟨h, by
    refine Ev.suc ?_
    simp only [spec_l01New.l0]
    exact Ev.ite_neg (by omega) (Ev.now _)⟩
  | d + 1, i, h, h0, h1, hd => by
    by_cases h4 : i < 4000
    · obtain ⟨h', hh⟩ := l01New_l0 b hb d (i + 1) (Go.bits .and .i64 (wrap64 ((wrap64 ((wrap64 (h * 131)) + (wrap64 (rd b i)))) + 7)) 1073741823) (by omega) (by omega) (by omega)
      refine ⟨h', ?_⟩
      refine Ev.suc ?_
      simp only [spec_l01New.l0]
      refine Ev.ite_pos (by omega) (Ev.ite_pos h4 (Ev.ite_pos h0 ?_))
      rw [w64 (x := i + 1) (by omega) (by omega)]
      exact hh
    · refine ⟨h, ?_⟩
      refine Ev.suc ?_
      simp only [spec_l01New.l0]
      exact Ev.ite_pos (by omega) (Ev.ite_neg h4 (Ev.now _))
theorem l01New_f (b : List Int) (hb : b.length ≤ 140737488351232) : ∃ h', Ev (fun k => spec_l01New.f k b) (b, 0, h') := l01New_l0 b hb b.length 0 _ (by omega) (by omega) (by omega)
theorem l01New_ok (b : List Int) (hb : b.length ≤ 140737488351232) : CurOk b 0 := ⟨by omega, by omega, hb⟩
theorem l01Byte_f (b : List Int) (i h : Int) (hc : CurOk b i) : ∃ r i' h', spec_l01Byte.f b i h = some (r, i', h') ∧ 0 ≤ r ∧ r ≤ 255 ∧ CurOk b i' := by
  obtain ⟨h0, h1, h2⟩ := hc
  unfold spec_l01Byte.f
  by_cases hl : i < (b.length : Int)
  · rw [if_pos hl, if_pos h0]
    refine ⟨_, _, _, rfl, (and255 _).1, (and255 _).2, ?_⟩
    rw [w64 (by omega) (by omega)]
    exact ⟨by omega, by omega, h2⟩
  · rw [if_neg hl]
    exact ⟨_, _, _, rfl, (and255 _).1, (and255 _).2, h0, h1, h2⟩
theorem l01Below_f (b : List Int) (i h n : Int) (hc : CurOk b i) : ∃ r i' h', spec_l01Below.f b i h n = some (r, i', h') ∧ 0 ≤ r ∧ (0 < n → r < n) ∧ (n ≤ 0 → r = 0) ∧ CurOk b i' := by
  unfold spec_l01Below.f
  by_cases hn : n ≤ 0
  · rw [if_pos hn]
    exact ⟨0, i, h, rfl, by omega, by omega, fun _ => rfl, hc⟩
  · rw [if_neg hn]
    have tm : ∀ x : Int, 0 ≤ x → 0 ≤ Int.tmod x n ∧ Int.tmod x n < n := fun x hx => by
      rw [Int.tmod_eq_emod_of_nonneg hx]
      exact ⟨Int.emod_nonneg _ (by omega), Int.emod_lt_of_pos _ (by omega)⟩
    by_cases h2 : n ≤ 256
    · obtain ⟨r, i', h', e, r0, r1, hc'⟩ := l01Byte_f b i h hc
      rw [if_pos h2, e]
      simp only [Option.bind_some]
      rw [if_neg (by omega)]
      exact ⟨_, _, _, rfl, (tm r r0).1, fun _ => (tm r r0).2, fun h => absurd h hn, hc'⟩
    · rw [if_neg h2]
      obtain ⟨x, i1, h1, e1, x0, x1, hc1⟩ := l01Byte_f b i h hc
      obtain ⟨y, i2, h2', e2, y0, y1, hc2⟩ := l01Byte_f b i1 h1 hc1
      obtain ⟨z, i3, h3, e3, z0, z1, hc3⟩ := l01Byte_f b i2 h2' hc2
      obtain ⟨w, i4, h4, e4, w0, w1, hc4⟩ := l01Byte_f b i3 h3 hc3
      simp only [e1, e2, e3, e4, Option.bind_some]
      rw [if_neg (by omega)]
      have hs : wrap64 ((wrap64 ((wrap64 ((wrap64 (x * 16777216)) + (wrap64 (y * 65536)))) + (wrap64 (z * 256)))) + w) = x * 16777216 + y * 65536 + z * 256 + w := by
        rw [w64 (x := x * 16777216) (by omega) (by omega), w64 (x := y * 65536) (by omega) (by omega), w64 (x := z * 256) (by omega) (by omega)]
        rw [w64 (x := x * 16777216 + y * 65536) (by omega) (by omega)]
        rw [w64 (x := x * 16777216 + y * 65536 + z * 256) (by omega) (by omega)]
        exact w64 (by omega) (by omega)
      rw [hs]
      exact ⟨_, _, _, rfl, (tm _ (by omega)).1, fun _ => (tm _ (by omega)).2, fun h => absurd h hn, hc4⟩

/-! ### grid -/
abbrev gOk (w h : Int) : Prop := 1 ≤ w ∧ w ≤ 4 ∧ 1 ≤ h ∧ h ≤ 4
def ncR (w h : Int) : Int := if gOk w h then w * h else 0
theorem mul_b {w h : Int} (hw : 1 ≤ w ∧ w ≤ 4) (hh : 1 ≤ h ∧ h ≤ 4) : 1 ≤ w * h ∧ w * h ≤ 16 := by
  obtain h1 | h1 | h1 | h1 : w = 1 ∨ w = 2 ∨ w = 3 ∨ w = 4 := by omega
  all_goals
    subst h1
    omega
theorem ncR_b (w h : Int) : 0 ≤ ncR w h ∧ ncR w h ≤ 16 := by
  unfold ncR
  split
  · rename_i hg
    have := mul_b ⟨hg.1, hg.2.1⟩ hg.2.2
    omega
  · omega
abbrev nodeOk (w h n : Int) : Prop := 0 ≤ n ∧ n ≤ ncR w h - 1

/-! ### drawGrid -/
theorem pick6_f (b : List Int) (i h : Int) (hc : CurOk b i) : ∃ v i' h', spec_l01PickInt.f b i h [1, 2, 2, 3, 3, 4] = some (v, i', h') ∧ (1 ≤ v ∧ v ≤ 4) ∧ CurOk b i' := by
  obtain ⟨r, i', h', e, r0, r1, _, hc'⟩ := l01Below_f b i h 6 hc
  have r2 := r1 (by omega)
  refine ⟨rd [1, 2, 2, 3, 3, 4] r, i', h', ?_, ?_, hc'⟩
  · unfold spec_l01PickInt.f
    have e6 : (([1, 2, 2, 3, 3, 4] : List Int).length : Int) = 6 := rfl
    rw [e6, e, Option.bind_some, if_pos r0, if_pos r2]
  · have : r = 0 ∨ r = 1 ∨ r = 2 ∨ r = 3 ∨ r = 4 ∨ r = 5 := by omega
    rcases this with rfl | rfl | rfl | rfl | rfl | rfl <;> decide
theorem l02Grid_f (b : List Int) (i h : Int) (hc : CurOk b i) : ∃ w g i' h', spec_l02Grid.f b i h = some (w, g, i', h') ∧ gOk w g ∧ CurOk b i' := by
  obtain ⟨w, i1, h1, e1, w1, c1⟩ := pick6_f b i h hc
  obtain ⟨g, i2, h2, e2, g1, c2⟩ := pick6_f b i1 h1 c1
  refine ⟨w, g, i2, h2, ?_, ⟨w1.1, w1.2, g1.1, g1.2⟩, c2⟩
  unfold spec_l02Grid.f
  rw [e1, Option.bind_some, e2, Option.bind_some]

/-! ### std -/
def portR (w rule node dst : Int) : Int :=
  if node = dst then 4 else
  if (if (if rule = 4 then 1 + dst % 2 else rule) = 2 then node / w = dst / w else if (if rule = 4 then 1 + dst % 2 else rule) = 3 then dst % w < node % w ∨ node / w = dst / w else node % w ≠ dst % w)
  then (if dst % w < node % w then 3 else 1) else (if dst / w < node / w then 0 else 2)
def stdL (w h rule : Int) (i : Nat) : List Int := (List.range i).map fun j => portR w rule ((j / (ncR w h).toNat : Nat) : Int) ((j % (ncR w h).toNat : Nat) : Int)
def stdT (w h rule : Int) : List Int := stdL w h rule ((ncR w h).toNat * (ncR w h).toNat)
theorem stdL_len (w h rule : Int) (i : Nat) : (stdL w h rule i).length = i := by
  unfold stdL
  simp
theorem stdL_snoc (w h rule : Int) (i : Nat) : stdL w h rule i ++ [portR w rule ((i / (ncR w h).toNat : Nat) : Int) ((i % (ncR w h).toNat : Nat) : Int)] = stdL w h rule (i + 1) := by
  unfold stdL
  rw [List.range_succ, List.map_append]
  rfl
theorem nn_b (w h : Int) : (ncR w h).toNat ≤ 16 := by
  have := ncR_b w h
  omega
theorem sq_b {n : Nat} (h : n ≤ 16) : n * n ≤ 256 := by
  have := Nat.mul_le_mul h h
  omega
theorem stdL_lim (w h rule : Int) {i : Nat} (h2 : i ≤ 256) : (stdL w h rule i).length < 17592186044416 := by
  have e := stdL_len w h rule i
  omega
theorem stdT_len (w h rule : Int) : (stdT w h rule).length ≤ 256 := by
  unfold stdT
  rw [stdL_len]
  exact sq_b (nn_b w h)
theorem node_b {w x : Int} (hw : 1 ≤ w ∧ w ≤ 4) (hx : 0 ≤ x ∧ x ≤ 15) : Int.tmod x w = x % w ∧ Int.tdiv x w = x / w ∧ 0 ≤ x % w ∧ x % w < w ∧ 0 ≤ x / w ∧ x / w ≤ 15 := by
  rw [Int.tmod_eq_emod_of_nonneg hx.1, Int.tdiv_eq_ediv_of_nonneg hx.1]
  refine ⟨rfl, rfl, Int.emod_nonneg _ (by omega), Int.emod_lt_of_pos _ (by omega), Int.ediv_nonneg hx.1 (by omega), ?_⟩
  obtain h1 | h1 | h1 | h1 : w = 1 ∨ w = 2 ∨ w = 3 ∨ w = 4 := by omega
  all_goals
    subst h1
    omega
theorem node_eq {w x y : Int} (h1 : x % w = y % w) (h2 : x / w = y / w) : x = y := by
  have := Int.mul_ediv_add_emod x w
  have := Int.mul_ediv_add_emod y w
  rw [h1, h2] at *
  omega

/-! ### in -/
theorem l01In_f (a b c : Int) : spec_l01In.f a b c = some (decide (b ≤ a ∧ a ≤ c)) := by
  unfold spec_l01In.f
  by_cases h : a ≥ b
  · rw [if_pos h]
    simp [show b ≤ a from h]
  · rw [if_neg h]
    simp [show ¬ b ≤ a from h]

/-! ### grid_s -/
theorem GridOk_s (w h : Int) : spec_GridOk.f w h = some (decide (gOk w h)) := by
  unfold spec_GridOk.f gOk
  simp only [l01In_f, Option.bind_some, decide_eq_true_eq]
  split
  · rename_i h1
    simp [h1]
  · rename_i h1
    simp only [Option.some.injEq]
    symm
    rw [decide_eq_false_iff_not]
    exact fun h2 => h1 ⟨h2.1, h2.2.1⟩
theorem NodeCount_s (w h : Int) : spec_NodeCount.f w h = some (ncR w h) := by
  unfold spec_NodeCount.f ncR
  simp only [GridOk_s, Option.bind_some, decide_eq_true_eq]
  split
  · rename_i hg
    have := mul_b ⟨hg.1, hg.2.1⟩ hg.2.2
    rw [w64 (by omega) (by omega)]
  · rfl

/-! ### std_s -/
theorem l05Column_s (a b : Int) : spec_l05Column.f a b = some (if b < a then 3 else 1) := by
  unfold spec_l05Column.f
  split <;> rfl
theorem l05Row_s (a b : Int) : spec_l05Row.f a b = some (if b < a then 0 else 2) := by
  unfold spec_l05Row.f
  split <;> rfl
theorem l05Port_j1 (x y u v : Int) (b : Bool) : Ev (fun k => spec_l05Port.j1 k x y u v b) (if b = true then (if u < x then 3 else 1) else (if v < y then 0 else 2)) := by
  refine Ev.suc ?_
  simp only [spec_l05Port.j1, l05Column_s, l05Row_s, Option.bind_some]
  refine Ev.ite (fun h => Ev.val ?_) (fun h => Ev.val ?_)
  · rw [if_pos h]
  · rw [if_neg h]
theorem l05Port_j0 (r x y u v : Int) : Ev (fun k => spec_l05Port.j0 k r x y u v) (if (if r = 2 then y = v else if r = 3 then u < x ∨ y = v else x ≠ u) then (if u < x then 3 else 1) else (if v < y then 0 else 2)) := by
  refine Ev.suc ?_
  simp only [spec_l05Port.j0]
  refine Ev.ite (fun h => ?_) (fun h => Ev.ite (fun h3 => Ev.ite (fun h4 => ?_) (fun h4 => ?_)) (fun h3 => ?_))
  · refine Ev.eq (l05Port_j1 x y u v _) ?_
    simp [h]
  · refine Ev.eq (l05Port_j1 x y u v _) ?_
    simp [h3, h4]
  · refine Ev.eq (l05Port_j1 x y u v _) ?_
    simp [h3, h4]
  · refine Ev.eq (l05Port_j1 x y u v _) ?_
    simp [h, h3]
theorem l05Port_s (w h rule node dst : Int) (hw : 1 ≤ w ∧ w ≤ 4) (hn : 0 ≤ node ∧ node ≤ 15) (ht : 0 ≤ dst ∧ dst ≤ 15) : Ev (fun k => spec_l05Port.f k w h rule node dst) (portR w rule node dst) := by
  unfold spec_l05Port.f portR
  obtain ⟨a1, a2, a3, a4, a5, a6⟩ := node_b hw hn
  obtain ⟨b1, b2, b3, b4, b5, b6⟩ := node_b hw ht
  have c2 : Int.tmod dst 2 = dst % 2 := Int.tmod_eq_emod_of_nonneg ht.1
  have e1 : wrap64 (node / w) = node / w := w64 (by omega) (by omega)
  have e2 : wrap64 (dst / w) = dst / w := w64 (by omega) (by omega)
  have e3 : wrap64 (1 + dst % 2) = 1 + dst % 2 := w64 (by omega) (by omega)
  simp only [a1, a2, b1, b2, c2, e1, e2, e3]
  refine Ev.ite_neg (by omega) (Ev.ite (fun h1 => Ev.val ?_) (fun h1 => ?_))
  · rw [if_pos h1]
  · rw [if_neg h1]
    refine Ev.ite (fun h4 => ?_) (fun h4 => ?_)
    · refine Ev.eq (l05Port_j0 _ _ _ _ _) ?_
      simp [h4]
    · refine Ev.eq (l05Port_j0 _ _ _ _ _) ?_
      simp [h4]
theorem l05Make_l0 (w h rule : Int) (hg : gOk w h) : ∀ (d i : Nat), i + d = (ncR w h).toNat * (ncR w h).toNat →
    Ev (fun k => spec_l05Make.l0 k rule (ncR w h) (i : Int) w h (stdL w h rule i)) (stdT w h rule)
  | d, i, hd => by
    have hb := ncR_b w h
    have hq := sq_b (nn_b w h)
    have hn1 : 1 ≤ ncR w h := by
      unfold ncR
      rw [if_pos hg]
      exact (mul_b ⟨hg.1, hg.2.1⟩ hg.2.2).1
    have hsq : wrap64 (ncR w h * ncR w h) = (((ncR w h).toNat * (ncR w h).toNat : Nat) : Int) := by
      have e : (((ncR w h).toNat * (ncR w h).toNat : Nat) : Int) = ncR w h * ncR w h := by
        rw [Int.natCast_mul, Int.toNat_of_nonneg hb.1]
      rw [← e]
      exact w64 (by omega) (by omega)
    refine Ev.suc ?_
    simp only [spec_l05Make.l0, hsq]
    cases d with
    | zero =>
      refine Ev.ite_neg (by omega) (Ev.val ?_)
      unfold stdT
      rw [← hd]
      rfl
    | succ d =>
      have ih := l05Make_l0 w h rule hg d (i + 1) (by omega)
      have hi : i < (ncR w h).toNat * (ncR w h).toNat := by omega
      have e1 : wrap64 (Int.tdiv (i : Int) (ncR w h)) = ((i / (ncR w h).toNat : Nat) : Int) := by
        have e : ((i / (ncR w h).toNat : Nat) : Int) = (i : Int) / ncR w h := by
          rw [Int.natCast_ediv, Int.toNat_of_nonneg hb.1]
        have hlt : i / (ncR w h).toNat < (ncR w h).toNat := Nat.div_lt_of_lt_mul hi
        rw [Int.tdiv_eq_ediv_of_nonneg (by omega), ← e]
        generalize i / (ncR w h).toNat = q at hlt ⊢
        exact w64 (by omega) (by omega)
      have e2 : Int.tmod (i : Int) (ncR w h) = ((i % (ncR w h).toNat : Nat) : Int) := by
        rw [Int.tmod_eq_emod_of_nonneg (by omega), Int.natCast_emod, Int.toNat_of_nonneg hb.1]
      have l1 : i / (ncR w h).toNat < (ncR w h).toNat := Nat.div_lt_of_lt_mul hi
      have l2 : i % (ncR w h).toNat < (ncR w h).toNat := Nat.mod_lt _ (by omega)
      have hw : wrap64 ((i : Int) + 1) = ((i + 1 : Nat) : Int) := by rw [w64 (by omega) (by omega)]; omega
      rw [← stdL_snoc] at ih
      rw [e1, e2, hw]
      generalize i / (ncR w h).toNat = q at l1 ih ⊢
      generalize i % (ncR w h).toNat = r at l2 ih ⊢
      refine Ev.ite_pos (by omega) ?_
      refine Ev.ite_neg (by omega) ?_
      refine Ev.bind (l05Port_s w h rule _ _ ⟨hg.1, hg.2.1⟩ ⟨by omega, by omega⟩ ⟨by omega, by omega⟩) ?_
      refine Ev.ite_pos (stdL_lim w h rule (Nat.le_of_lt (Nat.lt_of_lt_of_le hi hq))) ?_
      exact ih
theorem l05Make_s (w h rule : Int) (hg : gOk w h) : Ev (fun k => spec_l05Make.f k w h rule) (stdT w h rule) := by
  unfold spec_l05Make.f
  exact Ev.bindS (NodeCount_s w h) (l05Make_l0 w h rule hg _ 0 (Nat.zero_add _))

/-! ### inside -/
theorem inside_f (a b c : Int) : impl_inside.f a b c = some (decide (b ≤ a ∧ a ≤ c)) := by
  unfold impl_inside.f
  by_cases h : b ≤ a
  · rw [if_pos h]
    simp [h]
  · rw [if_neg h]
    simp [h]

/-! ### grid_i -/
theorem GridOk_i (w h : Int) : impl_GridOk.f w h = some (decide (gOk w h)) := by
  unfold impl_GridOk.f gOk
  simp only [inside_f, Option.bind_some, decide_eq_true_eq]
  split
  · rename_i h1
    simp [h1]
  · rename_i h1
    simp only [Option.some.injEq]
    symm
    rw [decide_eq_false_iff_not]
    exact fun h2 => h1 ⟨h2.1, h2.2.1⟩
theorem NodeCount_i (w h : Int) : impl_NodeCount.f w h = some (ncR w h) := by
  unfold impl_NodeCount.f ncR
  simp only [GridOk_i, Option.bind_some, decide_eq_true_eq]
  split
  · rename_i hg
    have := mul_b ⟨hg.1, hg.2.1⟩ hg.2.2
    rw [w64 (by omega) (by omega)]
  · rfl

/-! ### isNode -/
theorem isNode_i (w h n : Int) : impl_isNode.f w h n = some (decide (nodeOk w h n)) := by
  unfold impl_isNode.f nodeOk
  have := ncR_b w h
  simp only [NodeCount_i, inside_f, Option.bind_some]
  rw [w64 (by omega) (by omega)]

/-! ### nodeI -/
def nodeAtR (w h x y : Int) : Int := if gOk w h ∧ (0 ≤ x ∧ x ≤ w - 1) ∧ (0 ≤ y ∧ y ≤ h - 1) then y * w + x else -1
theorem nodeAt_b (w h x y : Int) : nodeAtR w h x y = -1 ∨ nodeOk w h (nodeAtR w h x y) := by
  unfold nodeAtR
  split
  · rename_i hc
    obtain ⟨hg, hx, hy⟩ := hc
    right
    have hn : ncR w h = w * h := if_pos hg
    rw [nodeOk, hn]
    obtain ⟨g1, g2, g3, g4⟩ := hg
    obtain h1 | h1 | h1 | h1 : w = 1 ∨ w = 2 ∨ w = 3 ∨ w = 4 := by omega
    all_goals
      subst h1
      omega
  · exact .inl rfl
theorem NodeAt_i (w h x y : Int) : impl_NodeAt.f w h x y = some (nodeAtR w h x y) := by
  unfold impl_NodeAt.f nodeAtR
  simp only [GridOk_i, inside_f, Option.bind_some, decide_eq_true_eq]
  by_cases hg : gOk w h
  · have e1 : wrap64 (w - 1) = w - 1 := w64 (by have := hg.1; omega) (by have := hg.2.1; omega)
    have e2 : wrap64 (h - 1) = h - 1 := w64 (by have := hg.2.2.1; omega) (by have := hg.2.2.2; omega)
    rw [if_pos hg, e1, e2]
    by_cases hx : 0 ≤ x ∧ x ≤ w - 1
    · by_cases hy : 0 ≤ y ∧ y ≤ h - 1
      · rw [if_pos hx, if_pos hy, if_pos ⟨hg, hx, hy⟩]
        obtain ⟨g1, g2, g3, g4⟩ := hg
        have hm : 0 ≤ y * w ∧ y * w ≤ 12 := by
          obtain h1 | h1 | h1 | h1 : w = 1 ∨ w = 2 ∨ w = 3 ∨ w = 4 := by omega
          all_goals
            subst h1
            omega
        rw [w64 (x := y * w) (by omega) (by omega), w64 (by omega) (by omega)]
      · rw [if_pos hx, if_neg hy, if_neg (fun hh => hy hh.2.2)]
    · rw [if_neg hx, if_neg (fun hh => hx hh.2.1)]
  · rw [if_neg hg, if_neg (fun hh => hg hh.1)]
def nextR (w h n p : Int) : Int :=
  if nodeOk w h n then
    (if p = 0 then nodeAtR w h (n % w) (n / w - 1) else if p = 1 then nodeAtR w h (n % w + 1) (n / w) else if p = 2 then nodeAtR w h (n % w) (n / w + 1) else if p = 3 then nodeAtR w h (n % w - 1) (n / w) else if p = 4 then n else -1)
  else -1
theorem nextR_b (w h n p : Int) : nextR w h n p = -1 ∨ nodeOk w h (nextR w h n p) := by
  unfold nextR
  by_cases hn : nodeOk w h n
  · rw [if_pos hn]
    by_cases h0 : p = 0
    · rw [if_pos h0]
      exact nodeAt_b _ _ _ _
    rw [if_neg h0]
    by_cases h1 : p = 1
    · rw [if_pos h1]
      exact nodeAt_b _ _ _ _
    rw [if_neg h1]
    by_cases h2 : p = 2
    · rw [if_pos h2]
      exact nodeAt_b _ _ _ _
    rw [if_neg h2]
    by_cases h3 : p = 3
    · rw [if_pos h3]
      exact nodeAt_b _ _ _ _
    rw [if_neg h3]
    by_cases h4 : p = 4
    · rw [if_pos h4]
      exact .inr hn
    · rw [if_neg h4]
      exact .inl rfl
  · rw [if_neg hn]
    exact .inl rfl
theorem nodeOk_g {w h n : Int} (hn : nodeOk w h n) : gOk w h ∧ 0 ≤ n ∧ n ≤ 15 := by
  obtain ⟨h0, h1⟩ := hn
  have hb := ncR_b w h
  by_cases hg : gOk w h
  · exact ⟨hg, h0, by omega⟩
  · have e : ncR w h = 0 := if_neg hg
    omega
theorem div_b {w x : Int} (hw : 1 ≤ w ∧ w ≤ 4) (hx : 0 ≤ x ∧ x ≤ 15) : Int.tmod x w = x % w ∧ Int.tdiv x w = x / w ∧ 0 ≤ x % w ∧ x % w < w ∧ 0 ≤ x / w ∧ x / w ≤ 15 := by
  rw [Int.tmod_eq_emod_of_nonneg hx.1, Int.tdiv_eq_ediv_of_nonneg hx.1]
  refine ⟨rfl, rfl, Int.emod_nonneg _ (by omega), Int.emod_lt_of_pos _ (by omega), Int.ediv_nonneg hx.1 (by omega), ?_⟩
  obtain h1 | h1 | h1 | h1 : w = 1 ∨ w = 2 ∨ w = 3 ∨ w = 4 := by omega
  all_goals
    subst h1
    omega
theorem NextNode_i (w h n p : Int) : impl_NextNode.f w h n p = some (nextR w h n p) := by
  unfold impl_NextNode.f nextR
  simp only [isNode_i, Option.bind_some, decide_eq_true_eq]
  by_cases hn : nodeOk w h n
  · obtain ⟨hg, h0, h15⟩ := nodeOk_g hn
    obtain ⟨a1, a2, a3, a4, a5, a6⟩ := div_b ⟨hg.1, hg.2.1⟩ ⟨h0, h15⟩
    rw [if_pos hn, if_pos hn, if_neg (by have := hg.1; omega), a1, a2]
    have hw4 := hg.2.1
    generalize n % w = x at *
    generalize n / w = y at *
    have e1 : wrap64 y = y := w64 (by omega) (by omega)
    have e2 : wrap64 (y - 1) = y - 1 := w64 (by omega) (by omega)
    have e3 : wrap64 (y + 1) = y + 1 := w64 (by omega) (by omega)
    have e4 : wrap64 (x - 1) = x - 1 := w64 (by omega) (by omega)
    have e5 : wrap64 (x + 1) = x + 1 := w64 (by omega) (by omega)
    simp only [e1, e2, e3, e4, e5, NodeAt_i, Option.bind_some]
    repeat' split
    all_goals rfl
  · rw [if_neg hn, if_neg hn]
def leadsR (w h c : Int) : Bool := decide (0 ≤ c ∧ c ≤ 4 * ncR w h - 1) && decide (nextR w h (c / 4) (c % 4) ≥ 0)
theorem leads_i (w h c : Int) : impl_leads.f w h c = some (leadsR w h c) := by
  unfold impl_leads.f leadsR
  have hb := ncR_b w h
  simp only [NodeCount_i, inside_f, Option.bind_some, decide_eq_true_eq]
  rw [w64 (x := 4 * ncR w h) (by omega) (by omega), w64 (x := 4 * ncR w h - 1) (by omega) (by omega)]
  by_cases hc : 0 ≤ c ∧ c ≤ 4 * ncR w h - 1
  · rw [if_pos hc, Int.tdiv_eq_ediv_of_nonneg hc.1, Int.tmod_eq_emod_of_nonneg hc.1, w64 (x := c / 4) (by omega) (by omega), NextNode_i]
    simp [hc]
  · rw [if_neg hc]
    simp [hc]

/-! ### mesh -/
/-- The list from an element on, behind what stands ahead of it. -/
def brR (w h : Int) : Option Int → List Int → Bool
  | _, [] => true
  | p, x :: r => leadsR w h x && (match p with | none => true | some y => decide (y < x)) && brR w h (some x) r
def meshR (w h : Int) (br : List Int) : Bool := decide (gOk w h) && brR w h none br
theorem last_snoc (pre : List Int) (y : Int) : rd (pre ++ [y]) (pre.length : Int) = y := rd_mid pre y []
theorem rd_app_last (pre : List Int) (y : Int) (rest : List Int) : rd (pre ++ [y] ++ rest) (((pre ++ [y]).length : Int) - 1) = y := by
  have e : ((pre ++ [y]).length : Int) - 1 = (pre.length : Int) := by
    rw [len_snoc]
    omega
  rw [e, List.append_assoc]
  exact rd_mid pre y rest

/-! ### hasCh -/
/-- A channel of a valid mesh. -/
def hasR (w h : Int) (br : List Int) (c : Int) : Bool := leadsR w h c && !decide (c ∈ br)

/-! ### walkR -/
theorem idx_b {n x y : Int} (hn : 0 ≤ n ∧ n ≤ 16) (hx : 0 ≤ x ∧ x ≤ n - 1) (hy : 0 ≤ y ∧ y ≤ n - 1) : 0 ≤ x * n ∧ x * n ≤ 256 ∧ x * n + y < n * n ∧ n * n ≤ 256 := by
  have h1 : 0 ≤ x * n := Int.mul_nonneg hx.1 hn.1
  have h2 : (x + 1) * n ≤ n * n := Int.mul_le_mul_of_nonneg_right (by omega) hn.1
  have h3 : n * n ≤ 16 * n := Int.mul_le_mul_of_nonneg_right hn.2 hn.1
  rw [Int.add_mul, Int.one_mul] at h2
  omega
theorem idx_w {n x y : Int} (hn : 0 ≤ n ∧ n ≤ 16) (hx : 0 ≤ x ∧ x ≤ n - 1) (hy : 0 ≤ y ∧ y ≤ n - 1) : wrap64 (wrap64 (x * n) + y) = x * n + y ∧ wrap64 (n * n) = n * n := by
  have hb := idx_b hn hx hy
  generalize x * n = m at *
  generalize n * n = q at *
  rw [w64 (x := m) (by omega) (by omega), w64 (x := m + y) (by omega) (by omega), w64 (x := q) (by omega) (by omega)]
  exact ⟨rfl, rfl⟩
/-- The walk from a node on, d channels at most still allowed. -/
def walkGo (w h : Int) (br ps : List Int) (dst : Int) : Nat → List Int → Int → List Int
  | 0, _, _ => []
  | d + 1, acc, x => if rd ps (x * ncR w h + dst) = 4 then (if x = dst then acc else []) else
      if (0 ≤ rd ps (x * ncR w h + dst) ∧ rd ps (x * ncR w h + dst) ≤ 3) ∧ hasR w h br (4 * x + rd ps (x * ncR w h + dst)) = true then
        walkGo w h br ps dst d (acc ++ [4 * x + rd ps (x * ncR w h + dst)]) (nextR w h x (rd ps (x * ncR w h + dst)))
      else []
def walkR (w h : Int) (br ps : List Int) (x dst : Int) : List Int := walkGo w h br ps dst ((ncR w h).toNat + 1) [] x
theorem walkGo_zero (w h : Int) (br ps : List Int) (dst : Int) (acc : List Int) (x : Int) (hx : ¬ (rd ps (x * ncR w h + dst) = 4)) : walkGo w h br ps dst 1 acc x = [] := by
  unfold walkGo
  rw [if_neg hx]
  split <;> rfl
theorem ch_div {x p : Int} (hp : 0 ≤ p ∧ p ≤ 3) : (4 * x + p) / 4 = x ∧ (4 * x + p) % 4 = p := by omega
theorem has_next {w h : Int} {br : List Int} {x p : Int} (hp : 0 ≤ p ∧ p ≤ 3) (hh : hasR w h br (4 * x + p) = true) : nodeOk w h (nextR w h x p) := by
  unfold hasR leadsR at hh
  obtain ⟨e1, e2⟩ := ch_div (x := x) hp
  rw [e1, e2] at hh
  simp only [Bool.and_eq_true, decide_eq_true_eq] at hh
  rcases nextR_b w h x p with h1 | h1
  · rw [h1] at hh
    omega
  · exact h1

/-! ### tableR -/
def diagOk (w h : Int) (ps : List Int) : Prop := ∀ x : Nat, (x : Int) < ncR w h → rd ps ((x : Int) * ncR w h + (x : Int)) = 4
def walksOk (w h : Int) (br ps : List Int) : Prop := ∀ x y : Nat, (x : Int) < ncR w h → (y : Int) < ncR w h → x ≠ y → walkR w h br ps (x : Int) (y : Int) ≠ []
/-- A table is valid. -/
def tableOk (w h : Int) (br ps : List Int) : Prop := meshR w h br = true ∧ (ps.length : Int) = ncR w h * ncR w h ∧ diagOk w h ps ∧ walksOk w h br ps

/-! ### stdTab -/
def stdChkT (w h : Int) (n : Nat) (ps : List Int) : Bool := meshR w h [] && (decide ((n : Int) = ncR w h) && (decide ((ps.length : Int) = ncR w h * ncR w h) && ((List.range n).all (fun x => decide (rd ps ((x : Int) * ncR w h + (x : Int)) = 4)) && (List.range n).all (fun x => (List.range n).all fun y => decide (x = y) || !(walkR w h [] ps (x : Int) (y : Int)).isEmpty))))
set_option maxHeartbeats 8000000 in
set_option maxRecDepth 100000 in
theorem stdChkT_ok (w h rule : Int) (hg : gOk w h) (hr : 1 ≤ rule ∧ rule ≤ 4) : stdChkT w h (ncR w h).toNat (stdT w h rule) = true := by
  obtain ⟨w0, w1, h0, h1⟩ := hg
  obtain rfl | rfl | rfl | rfl : rule = 1 ∨ rule = 2 ∨ rule = 3 ∨ rule = 4 := by omega
  all_goals obtain rfl | rfl | rfl | rfl : w = 1 ∨ w = 2 ∨ w = 3 ∨ w = 4 := by omega
  all_goals obtain rfl | rfl | rfl | rfl : h = 1 ∨ h = 2 ∨ h = 3 ∨ h = 4 := by omega
  all_goals decide +kernel
/-- The standard tables are valid. -/
theorem stdTab (w h rule : Int) (hg : gOk w h) (hr : 1 ≤ rule ∧ rule ≤ 4) : tableOk w h [] (stdT w h rule) := by
  have hc := stdChkT_ok w h rule hg hr
  unfold stdChkT at hc
  simp only [Bool.and_eq_true, decide_eq_true_eq, List.all_eq_true, List.mem_range, Bool.or_eq_true, Bool.not_eq_true'] at hc
  obtain ⟨c1, c2, c3, c4, c5⟩ := hc
  refine ⟨c1, c3, fun x hx => c4 x (by omega), fun x y hx hy hxy e => ?_⟩
  rcases c5 x (by omega) y (by omega) with h1 | h1
  · exact hxy h1
  · rw [e] at h1
    cases h1

/-! ### contains -/
theorem Index_l0 (x : Int) : ∀ (rest pre : List Int), pre.length + rest.length < 1152921504606846976 → ∃ r, Ev (fun k => slices_Index_int_int.l0 k (pre ++ rest) x ((pre ++ rest).length : Int) (pre.length : Int)) r ∧ (r ≥ 0 ↔ x ∈ rest)
  | [], pre, _ => by
    refine ⟨-1, Ev.suc ?_, by simp⟩
    simp only [slices_Index_int_int.l0]
    exact Ev.ite_neg (by simp) (Ev.now _)
  | y :: rest, pre, hl => by
    simp only [List.length_cons] at hl
    have h1 : (pre.length : Int) < ((pre ++ y :: rest).length : Int) := by simp only [List.length_append, List.length_cons]; omega
    have hw : wrap64 ((pre.length : Int) + 1) = ((pre ++ [y]).length : Int) := by rw [w64 (by omega) (by omega), len_snoc]
    obtain ⟨r, hr, hr2⟩ := Index_l0 x rest (pre ++ [y]) (by simp only [List.length_append, List.length_cons, List.length_nil]; omega)
    rw [← snoc_app pre y rest] at hr
    by_cases h : x = y
    · refine ⟨(pre.length : Int), Ev.suc ?_, by simp [h]⟩
      simp only [slices_Index_int_int.l0, rd_mid]
      exact Ev.ite_pos h1 (Ev.ite_pos (by omega) (Ev.ite_pos h1 (Ev.ite_pos h (Ev.now _))))
    · refine ⟨r, Ev.suc ?_, by simp [h, hr2]⟩
      simp only [slices_Index_int_int.l0, rd_mid, hw]
      exact Ev.ite_pos h1 (Ev.ite_pos (by omega) (Ev.ite_pos h1 (Ev.ite_neg h hr)))
theorem Contains_i (l : List Int) (x : Int) (h : l.length < 1152921504606846976) : Ev (fun k => slices_Contains_int_int.f k l x) (decide (x ∈ l)) := by
  obtain ⟨r, hr, hr2⟩ := Index_l0 x l [] (by simpa using h)
  unfold slices_Contains_int_int.f slices_Index_int_int.f
  refine Ev.bind hr (Ev.val ?_)
  rw [decide_eq_decide]
  exact hr2

/-! ### MeshOk_i -/
theorem MeshOk_i_l0 (w h : Int) : ∀ (rest pre : List Int) (y : Int), pre.length + rest.length < 1152921504606846976 → Ev (fun k => impl_MeshOk.l0 k ((pre ++ [y]) ++ rest) (((pre ++ [y]) ++ rest).length : Int) (((pre ++ [y])).length : Int) w h ((pre ++ [y]) ++ rest)) ((brR w h (some y) rest) && decide (gOk w h))
  | [], pre, y, hl => by
    refine Ev.suc ?_
    simp only [impl_MeshOk.l0]
    refine Ev.ite_neg (by simp) ?_
    exact Ev.bindS (GridOk_i w h) (Ev.val (by simp [brR]))
  | x :: rest, pre, y, hl => by
    simp only [List.length_cons] at hl
    have hp : (pre ++ [y]).length = pre.length + 1 := by simp
    have h1 : ((pre ++ [y]).length : Int) < ((pre ++ [y] ++ x :: rest).length : Int) := by simp only [List.length_append, List.length_cons, List.length_nil]; omega
    have hw : wrap64 (((pre ++ [y]).length : Int) + 1) = ((pre ++ [y] ++ [x]).length : Int) := by rw [w64 (by omega) (by omega)]; exact (len_snoc _ _).symm
    have hv : wrap64 (((pre ++ [y]).length : Int) - 1) = ((pre ++ [y]).length : Int) - 1 := w64 (by omega) (by omega)
    have e1 : rd (pre ++ [y] ++ x :: rest) (((pre ++ [y]).length : Int) - 1) = y := rd_app_last pre y (x :: rest)
    have e2 : rd (pre ++ [y] ++ x :: rest) ((pre ++ [y]).length : Int) = x := rd_mid _ _ _
    have ih := MeshOk_i_l0 w h rest (pre ++ [y]) x (by omega)
    rw [← snoc_app (pre ++ [y]) x rest] at ih
    refine Ev.suc ?_
    simp only [impl_MeshOk.l0, e1, e2, hw, hv, leads_i, Option.bind_some]
    refine Ev.ite_pos h1 (Ev.ite_pos (by omega) (Ev.ite_pos h1 (Ev.ite (fun hlx => ?_) (fun hlx => Ev.val ?_))))
    · refine Ev.ite_pos (by omega) (Ev.ite_pos (by omega) (Ev.ite_pos (by omega) (Ev.ite (fun hc => Ev.val ?_) (fun hc => Ev.eq ih ?_))))
      · have hc' : ¬ y < x := by omega
        simp [brR, hc']
      · have hc' : y < x := by omega
        simp [brR, hlx, hc']
    · simp [brR, hlx]
theorem MeshOk_i (w h : Int) (br : List Int) (hl : br.length < 1152921504606846976) : Ev (fun k => impl_MeshOk.f k w h br) (meshR w h br) := by
  unfold impl_MeshOk.f meshR
  skip
  cases br with
  | nil =>
    refine Ev.suc ?_
    simp only [impl_MeshOk.l0]
    refine Ev.ite_neg (by simp) ?_
    exact Ev.bindS (GridOk_i w h) (Ev.val (by simp [brR]))
  | cons x rest =>
    simp only [List.length_cons] at hl
    have z := MeshOk_i_l0 w h rest [] x (by simp; omega)
    have hw : wrap64 ((0 : Int) + 1) = ((([] : List Int) ++ [x]).length : Int) := by rw [w64 (by omega) (by omega)]; rfl
    have e2 : rd (x :: rest) 0 = x := rfl
    have h1 : (0 : Int) < ((x :: rest).length : Int) := by simp only [List.length_cons]; omega
    refine Ev.suc ?_
    simp only [impl_MeshOk.l0, e2, hw, leads_i, Option.bind_some]
    refine Ev.ite_pos h1 (Ev.ite_pos (by omega) (Ev.ite_pos h1 (Ev.ite (fun hlx => Ev.ite_neg (by omega) (Ev.eq z ?_)) (fun hlx => Ev.val ?_))))
    · rw [Bool.and_comm]; simp [brR, hlx]
    · simp [brR, hlx]

/-! ### hasCh_i -/
theorem HasChannel_i (w h : Int) (br : List Int) (c : Int) (hl : br.length < 1152921504606846976) : Ev (fun k => impl_HasChannel.f k w h br c) (meshR w h br && hasR w h br c) := by
  unfold impl_HasChannel.f hasR
  refine Ev.bind (MeshOk_i w h br hl) (Ev.ite (fun h0 => ?_) (fun h0 => Ev.val (by simp [h0])))
  refine Ev.bindS (leads_i w h c) (Ev.ite (fun h1 => ?_) (fun h1 => Ev.val (by simp [h1])))
  exact Ev.bind (Contains_i br c hl) (Ev.val (by simp [h0, h1]))

/-! ### walk_i -/
theorem PortAt_i (w h : Int) (br ps : List Int) (x dst : Int) (hbr : br.length < 1152921504606846976) (hm : meshR w h br = true) (hps : (ps.length : Int) = ncR w h * ncR w h) (hx : nodeOk w h x) (hd : nodeOk w h dst) :
    Ev (fun k => impl_PortAt.f k w h br ps x dst) (if 0 ≤ rd ps (x * ncR w h + dst) ∧ rd ps (x * ncR w h + dst) ≤ 4 then rd ps (x * ncR w h + dst) else -1) := by
  have hn := ncR_b w h
  have hb := idx_b hn hx hd
  obtain ⟨e1, e2⟩ := idx_w hn hx hd
  have hin1 : 0 ≤ x * ncR w h + dst := by
    have := hd.1
    omega
  have hin2 : x * ncR w h + dst < (ps.length : Int) := by
    rw [hps]
    exact hb.2.2.1
  have e3 : wrap64 (ncR w h - 1) = ncR w h - 1 := w64 (by omega) (by omega)
  unfold impl_PortAt.f
  refine Ev.bindS (NodeCount_i w h) (Ev.bind (MeshOk_i w h br hbr) (Ev.ite_pos hm ?_))
  simp only [inside_f, e1, e2, e3, Option.bind_some, decide_eq_true_eq]
  refine Ev.ite_pos hx (Ev.ite_pos hd (Ev.ite_pos hps (Ev.ite_pos hin1 (Ev.ite_pos hin2 (Ev.ite (fun hp => Ev.val ?_) (fun hp => Ev.val ?_))))))
  · rw [if_pos hp]
  · rw [if_neg hp]
theorem endOf_i (w h : Int) (br : List Int) (x p : Int) (hx : 0 ≤ x ∧ x ≤ 15) (hp : 0 ≤ p ∧ p ≤ 3) : impl_endOf.f w h br (4 * x + p) = some (nextR w h x p) := by
  obtain ⟨e1, e2⟩ := ch_div (x := x) hp
  unfold impl_endOf.f
  rw [Int.tdiv_eq_ediv_of_nonneg (by omega), Int.tmod_eq_emod_of_nonneg (by omega), e1, e2, w64 (x := x) (by omega) (by omega), NextNode_i]
  rfl
theorem WalkTable_l0 (w h : Int) (br ps : List Int) (dst : Int) (hbr : br.length < 1152921504606846976) (hm : meshR w h br = true) (hps : (ps.length : Int) = ncR w h * ncR w h) (hd : nodeOk w h dst) : ∀ (d : Nat) (acc : List Int) (x : Int), nodeOk w h x → (acc.length : Int) + d = ncR w h →
    Ev (fun k => impl_WalkTable.l0 k dst acc x w h br ps) (walkGo w h br ps dst (d + 1) acc x)
  | d, acc, x, hx, hl => by
    have hn := ncR_b w h
    have hx15 : 0 ≤ x ∧ x ≤ 15 := ⟨hx.1, by have := hx.2; omega⟩
    refine Ev.suc ?_
    simp only [impl_WalkTable.l0]
    refine Ev.bind (PortAt_i w h br ps x dst hbr hm hps hx hd) ?_
    have hz := walkGo_zero w h br ps dst acc x
    unfold walkGo
    have hacc : acc.length < 17592186044416 := by omega
    generalize rd ps (x * ncR w h + dst) = p at *
    by_cases h4 : p = 4
    · subst h4
      simp only [show (0 : Int) ≤ 4 ∧ (4 : Int) ≤ 4 from by omega, and_self, if_true]
      refine Ev.ite_neg (by omega) (Ev.ite (fun h5 => Ev.val ?_) (fun h5 => Ev.val ?_))
      · rw [if_pos h5]
      · rw [if_neg h5]
    · rw [if_neg h4]
      by_cases hp : 0 ≤ p ∧ p ≤ 3
      · have e3 : wrap64 (wrap64 (4 * x) + p) = 4 * x + p := by rw [w64 (x := 4 * x) (by omega) (by omega), w64 (by omega) (by omega)]
        rw [if_pos (show 0 ≤ p ∧ p ≤ 4 by omega)]
        simp only [e3]
        refine Ev.ite_neg (by omega) (Ev.ite_neg h4 (Ev.bind (HasChannel_i w h br (4 * x + p) hbr) ?_))
        rw [hm, Bool.true_and]
        refine Ev.ite (fun hh => Ev.bindS (NodeCount_i w h) ?_) (fun hh => Ev.val ?_)
        · rw [if_pos ⟨hp, hh⟩]
          cases d with
          | zero => exact Ev.ite_pos (by omega) (Ev.val rfl)
          | succ d =>
            refine Ev.ite_neg (by omega) (Ev.ite_pos hacc (Ev.bindS (endOf_i w h br x p hx15 hp) ?_))
            exact WalkTable_l0 w h br ps dst hbr hm hps hd d _ _ (has_next hp hh) (by simp only [List.length_append, List.length_cons, List.length_nil]; omega)
        · rw [if_neg (fun z => hh z.2)]
      · rw [if_neg (show ¬ (0 ≤ p ∧ p ≤ 4) by omega), if_neg (show ¬ ((0 ≤ p ∧ p ≤ 3) ∧ hasR w h br (4 * x + p) = true) from fun z => hp z.1)]
        exact Ev.ite_pos (by omega) (Ev.now _)
theorem WalkTable_i (w h : Int) (br ps : List Int) (x dst : Int) (hbr : br.length < 1152921504606846976) (hm : meshR w h br = true) (hps : (ps.length : Int) = ncR w h * ncR w h) (hx : nodeOk w h x) (hd : nodeOk w h dst) (hne : ¬ x = dst) :
    Ev (fun k => impl_WalkTable.f k w h br ps x dst) (walkR w h br ps x dst) := by
  unfold impl_WalkTable.f walkR
  have hn := ncR_b w h
  refine Ev.ite_neg hne (Ev.bind (MeshOk_i w h br hbr) (Ev.ite_pos hm ?_))
  simp only [isNode_i, Option.bind_some, decide_eq_true hx, decide_eq_true hd]
  refine Ev.ite_pos trivial ?_
  refine Ev.suc ?_
  simp only [impl_WalkTable.j0]
  refine Ev.ite_neg (by simp) ?_
  exact WalkTable_l0 w h br ps dst hbr hm hps hd _ [] x hx (by simp only [List.length_nil]; omega)

/-! ### TableOk_i -/
theorem TableOk_v (w h : Int) (br ps : List Int) (x y : Int) (hbr : br.length < 1152921504606846976) (hm : meshR w h br = true) (hps : (ps.length : Int) = ncR w h * ncR w h) (hx : nodeOk w h x) (hy : nodeOk w h y) (hne : ¬ x = y) :
    Ev (fun k => impl_TableOk.v k w h br ps x y) (decide (walkR w h br ps x y ≠ [])) := by
  unfold impl_TableOk.v
  refine Ev.bind (WalkTable_i w h br ps x y hbr hm hps hx hy hne) (Ev.val ?_)
  rw [decide_eq_decide]
  cases walkR w h br ps x y with
  | nil => simp
  | cons a l => simp
/-- One row of pairs, then what follows. -/
theorem TableOk_l2 (w h : Int) (br ps : List Int) (hbr : br.length < 1152921504606846976) (hm : meshR w h br = true) (hps : (ps.length : Int) = ncR w h * ncR w h) (n : Nat) (hn : (n : Int) = ncR w h) (x : Nat) (hx : x < n) (P : Prop)
    (hR : ∃ b, Ev (fun k => impl_TableOk.l1 k w h br ps (n : Int) ((x + 1 : Nat) : Int)) b ∧ (b = true ↔ P)) : ∀ (d y : Nat), y + d = n →
    ∃ b, Ev (fun k => impl_TableOk.l2 k w h br ps (n : Int) (x : Int) (y : Int)) b ∧ (b = true ↔ (∀ y' : Nat, y ≤ y' → y' < n → x ≠ y' → walkR w h br ps (x : Int) (y' : Int) ≠ []) ∧ P)
  | 0, y, hd => by
    obtain ⟨b, hb, hb2⟩ := hR
    have hnb := ncR_b w h
    refine ⟨b, Ev.suc ?_, ?_⟩
    · simp only [impl_TableOk.l2]
      refine Ev.ite_neg (by omega) ?_
      have e : wrap64 ((x : Int) + 1) = ((x + 1 : Nat) : Int) := by rw [w64 (by omega) (by omega)]; omega
      rw [e]
      exact hb
    · rw [hb2]
      exact ⟨fun hp => ⟨fun y' h1 h2 => absurd h2 (by omega), hp⟩, fun hp => hp.2⟩
  | d + 1, y, hd => by
    obtain ⟨b, hb, hb2⟩ := TableOk_l2 w h br ps hbr hm hps n hn x hx P hR d (y + 1) (by omega)
    have hnb := ncR_b w h
    have e : wrap64 ((y : Int) + 1) = ((y + 1 : Nat) : Int) := by rw [w64 (by omega) (by omega)]; omega
    by_cases hxy : x = y
    · refine ⟨b, Ev.suc ?_, ?_⟩
      · simp only [impl_TableOk.l2, e]
        exact Ev.ite_pos (by omega) (Ev.ite_pos (by omega) hb)
      · rw [hb2]
        refine ⟨fun hp => ⟨fun y' h1 h2 h3 => hp.1 y' (by omega) h2 h3, hp.2⟩, fun hp => ⟨fun y' h1 h2 h3 => hp.1 y' (by omega) h2 h3, hp.2⟩⟩
    · have hv := TableOk_v w h br ps (x : Int) (y : Int) hbr hm hps ⟨by omega, by omega⟩ ⟨by omega, by omega⟩ (by omega)
      by_cases hw : walkR w h br ps (x : Int) (y : Int) = []
      · refine ⟨false, Ev.suc ?_, ?_⟩
        · simp only [impl_TableOk.l2, e]
          refine Ev.ite_pos (by omega) (Ev.ite_neg (by omega) (Ev.bind hv (Ev.ite_neg (by simp [hw]) (Ev.now _))))
        · refine ⟨fun z => absurd z Bool.false_ne_true, fun hp => absurd hw (hp.1 y (Nat.le_refl _) (by omega) hxy)⟩
      · refine ⟨b, Ev.suc ?_, ?_⟩
        · simp only [impl_TableOk.l2, e]
          exact Ev.ite_pos (by omega) (Ev.ite_neg (by omega) (Ev.bind hv (Ev.ite_pos (by simp [hw]) hb)))
        · rw [hb2]
          refine ⟨fun hp => ⟨fun y' h1 h2 h3 => ?_, hp.2⟩, fun hp => ⟨fun y' h1 h2 h3 => hp.1 y' (by omega) h2 h3, hp.2⟩⟩
          by_cases hy : y' = y
          · rw [hy]
            exact hw
          · exact hp.1 y' (by omega) h2 h3
theorem TableOk_l1 (w h : Int) (br ps : List Int) (hbr : br.length < 1152921504606846976) (hm : meshR w h br = true) (hps : (ps.length : Int) = ncR w h * ncR w h) (n : Nat) (hn : (n : Int) = ncR w h) : ∀ (d x : Nat), x + d = n →
    ∃ b, Ev (fun k => impl_TableOk.l1 k w h br ps (n : Int) (x : Int)) b ∧ (b = true ↔ ∀ x' y' : Nat, x ≤ x' → x' < n → y' < n → x' ≠ y' → walkR w h br ps (x' : Int) (y' : Int) ≠ [])
  | 0, x, hd => by
    refine ⟨true, Ev.suc ?_, ?_⟩
    · simp only [impl_TableOk.l1]
      exact Ev.ite_neg (by omega) (Ev.now _)
    · exact ⟨fun _ x' y' h1 h2 => absurd h2 (by omega), fun _ => rfl⟩
  | d + 1, x, hd => by
    obtain ⟨b, hb, hb2⟩ := TableOk_l2 w h br ps hbr hm hps n hn x (by omega) _ (TableOk_l1 w h br ps hbr hm hps n hn d (x + 1) (by omega)) n 0 (by omega)
    refine ⟨b, Ev.suc ?_, ?_⟩
    · simp only [impl_TableOk.l1]
      exact Ev.ite_pos (by omega) hb
    · rw [hb2]
      refine ⟨fun hp x' y' h1 h2 h3 h4 => ?_, fun hp => ⟨fun y' h1 h2 h3 => hp x y' (Nat.le_refl _) (by omega) h2 h3, fun x' y' h1 h2 h3 h4 => hp x' y' (by omega) h2 h3 h4⟩⟩
      by_cases hx : x' = x
      · subst hx
        exact hp.1 y' (Nat.zero_le _) h3 h4
      · exact hp.2 x' y' (by omega) h2 h3 h4
theorem TableOk_l0 (w h : Int) (br ps : List Int) (hbr : br.length < 1152921504606846976) (hm : meshR w h br = true) (hps : (ps.length : Int) = ncR w h * ncR w h) (n : Nat) (hn : (n : Int) = ncR w h) : ∀ (d x : Nat), x + d = n →
    ∃ b, Ev (fun k => impl_TableOk.l0 k w h br ps (n : Int) (x : Int)) b ∧ (b = true ↔ (∀ x' : Nat, x ≤ x' → x' < n → rd ps ((x' : Int) * ncR w h + (x' : Int)) = 4) ∧ walksOk w h br ps)
  | 0, x, hd => by
    obtain ⟨b, hb, hb2⟩ := TableOk_l1 w h br ps hbr hm hps n hn n 0 (by omega)
    refine ⟨b, Ev.suc ?_, ?_⟩
    · simp only [impl_TableOk.l0]
      refine Ev.ite_neg (by omega) ?_
      unfold impl_TableOk.ps
      refine Ev.bindS (NodeCount_i w h) ?_
      rw [← hn]
      exact hb
    · rw [hb2]
      unfold walksOk
      rw [← hn]
      exact ⟨fun hp => ⟨fun x' h1 h2 => absurd h2 (by omega), fun x' y' h1 h2 h3 => hp x' y' (Nat.zero_le _) (by omega) (by omega) h3⟩, fun hp x' y' _ h2 h3 h4 => hp.2 x' y' (by omega) (by omega) h4⟩
  | d + 1, x, hd => by
    obtain ⟨b, hb, hb2⟩ := TableOk_l0 w h br ps hbr hm hps n hn d (x + 1) (by omega)
    have hnb := ncR_b w h
    have hxn : 0 ≤ (x : Int) ∧ (x : Int) ≤ ncR w h - 1 := by omega
    have e : wrap64 ((x : Int) + 1) = ((x + 1 : Nat) : Int) := by rw [w64 (by omega) (by omega)]; omega
    have hi := idx_b hnb hxn hxn
    have hi0 : 0 ≤ (x : Int) * ncR w h + (x : Int) := by omega
    have hi1 : (x : Int) * ncR w h + (x : Int) < (ps.length : Int) := by
      rw [hps]
      exact hi.2.2.1
    have ew := (idx_w hnb hxn hxn).1
    have hlt : (x : Int) < (n : Int) := by omega
    by_cases h4 : rd ps ((x : Int) * ncR w h + (x : Int)) = 4
    · refine ⟨b, Ev.suc ?_, ?_⟩
      · rw [hn] at hb hlt ⊢
        simp only [impl_TableOk.l0, ew, e]
        exact Ev.ite_pos hlt (Ev.ite_pos hi0 (Ev.ite_pos hi1 (Ev.ite_pos h4 hb)))
      · rw [hb2]
        clear hi hi0 hi1 ew
        refine ⟨fun hp => ⟨fun x' h1 h2 => ?_, hp.2⟩, fun hp => ⟨fun x' h1 h2 => hp.1 x' (by omega) h2, hp.2⟩⟩
        by_cases hx : x' = x
        · rw [hx]
          exact h4
        · exact hp.1 x' (by omega) h2
    · refine ⟨false, Ev.suc ?_, ?_⟩
      · rw [hn] at hlt ⊢
        simp only [impl_TableOk.l0, ew, e]
        exact Ev.ite_pos hlt (Ev.ite_pos hi0 (Ev.ite_pos hi1 (Ev.ite_neg h4 (Ev.now _))))
      · exact ⟨fun z => absurd z Bool.false_ne_true, fun hp => absurd (hp.1 x (Nat.le_refl _) (by omega)) h4⟩
theorem TableOk_i (w h : Int) (br ps : List Int) (hbr : br.length < 1152921504606846976) : ∃ b, Ev (fun k => impl_TableOk.f k w h br ps) b ∧ (b = true ↔ tableOk w h br ps) := by
  have hnb := ncR_b w h
  unfold impl_TableOk.f tableOk
  by_cases hm : meshR w h br = true
  · have hsq : wrap64 (ncR w h * ncR w h) = ncR w h * ncR w h := by
      have h3 : ncR w h * ncR w h ≤ 16 * ncR w h := Int.mul_le_mul_of_nonneg_right hnb.2 hnb.1
      have h4 : 0 ≤ ncR w h * ncR w h := Int.mul_nonneg hnb.1 hnb.1
      generalize ncR w h * ncR w h = q at *
      exact w64 (by omega) (by omega)
    by_cases hps : (ps.length : Int) = ncR w h * ncR w h
    · obtain ⟨n, hn⟩ : ∃ n : Nat, (n : Int) = ncR w h := ⟨(ncR w h).toNat, by omega⟩
      obtain ⟨b, hb, hb2⟩ := TableOk_l0 w h br ps hbr hm hps n hn n 0 (by omega)
      refine ⟨b, ?_, ?_⟩
      · refine Ev.bindS (NodeCount_i w h) (Ev.bind (MeshOk_i w h br hbr) (Ev.ite_pos hm (Ev.ite_pos (by rw [hsq]; exact hps) ?_)))
        rw [← hn]
        exact hb
      · rw [hb2]
        unfold diagOk
        exact ⟨fun hp => ⟨hm, hps, fun x hx => hp.1 x (Nat.zero_le _) (by omega), hp.2⟩, fun hp => ⟨fun x _ hx => hp.2.2.1 x (by omega), hp.2.2.2⟩⟩
    · refine ⟨false, ?_, ⟨fun z => absurd z Bool.false_ne_true, fun hp => absurd hp.2.1 hps⟩⟩
      exact Ev.bindS (NodeCount_i w h) (Ev.bind (MeshOk_i w h br hbr) (Ev.ite_pos hm (Ev.ite_neg (by rw [hsq]; exact hps) (Ev.now _))))
  · refine ⟨false, ?_, ⟨fun z => absurd z Bool.false_ne_true, fun hp => absurd hp.1 hm⟩⟩
    exact Ev.bindS (NodeCount_i w h) (Ev.bind (MeshOk_i w h br hbr) (Ev.ite_neg hm (Ev.now _)))

/-! ### rdFlit -/
theorem rdI_Flit (pre : List S79) (x : S79) (rest : List S79) : rd_T79 (pre ++ x :: rest) (pre.length : Int) = x := getD_mid pre x rest _

/-! ### clsL -/
def clsL (c : Int) : List S79 → List S79
  | [] => []
  | x :: l => if x.f2 = c then x :: clsL c l else clsL c l
theorem clsL_len (c : Int) : ∀ l : List S79, (clsL c l).length ≤ l.length
  | [] => Nat.le_refl _
  | x :: l => by
    have := clsL_len c l
    unfold clsL
    split
    · simp only [List.length_cons]
      omega
    · simp only [List.length_cons]
      omega

/-! ### rdSS -/
theorem rdI_FlitSS (pre : List (List S79)) (x : List S79) (rest : List (List S79)) : rd_L5 (pre ++ x :: rest) (pre.length : Int) = x := getD_mid pre x rest _

/-! ### netB -/
abbrev Fl := S79
def flB (w h : Int) (l : List Fl) : Bool := l.all fun x => decide (nodeOk w h x.f1) && decide (0 ≤ x.f2 ∧ x.f2 ≤ 1)
def clB (c : Int) (l : List Fl) : Bool := l.all fun x => decide (x.f2 = c)
def srcB (w h : Int) (l : List (List Fl)) : Bool := l.all fun b => decide (b.length ≤ 60) && flB w h b
def rgB (lo hi : Int) (l : List Int) : Bool := l.all fun x => decide (lo ≤ x ∧ x ≤ hi)
def bufI (w h : Int) : Nat → List (List Fl) → Bool
  | _, [] => true
  | i, b :: r => (decide (b.length ≤ 3) && (clB (Int.tmod (i : Int) 2) b && flB w h b)) && bufI w h (i + 1) r
def bufS (w h : Int) : Nat → List (List Fl) → List Int → Bool
  | i, b :: r, o :: os => (decide (b.length ≤ 3) && (flB w h b && (decide (-1 ≤ o ∧ o ≤ 4) && clB (Int.tmod (i : Int) 2) b))) && bufS w h (i + 1) r os
  | _, _, _ => true
theorem bufS_eq (w h : Int) : ∀ (B : List (List Fl)) (O : List Int) (i : Nat), B.length = O.length → bufS w h i B O = (bufI w h i B && rgB (-1) 4 O)
  | [], [], _, _ => rfl
  | [], _ :: _, _, h => by simp at h
  | _ :: _, [], _, h => by simp at h
  | b :: r, o :: os, i, hl => by
    have ih := bufS_eq w h r os (i + 1) (by simpa using hl)
    unfold bufS bufI
    rw [ih]
    simp only [rgB, List.all_cons]
    cases decide (b.length ≤ 3) <;> cases flB w h b <;> cases decide (-1 ≤ o ∧ o ≤ 4) <;> cases clB (Int.tmod (i : Int) 2) b <;> simp
theorem clsL_all (c : Int) : ∀ l : List Fl, ((clsL c l).length = l.length) ↔ clB c l = true
  | [] => by simp [clsL, clB]
  | x :: l => by
    have ih := clsL_all c l
    have hl := clsL_len c l
    unfold clsL
    by_cases h : x.f2 = c
    · rw [if_pos h]
      simp only [List.length_cons, clB, List.all_cons, h, decide_true, Bool.true_and, Nat.add_right_cancel_iff]
      exact ih
    · rw [if_neg h]
      simp only [List.length_cons, clB, List.all_cons, h, decide_false, Bool.false_and]
      exact ⟨fun z => by omega, fun z => absurd z Bool.false_ne_true⟩

/-! ### slen -/
/-- How many elements the lists hold together. -/
def slen {α : Type} : List (List α) → Int
  | [] => 0
  | x :: l => (x.length : Int) + slen l
theorem slen_nn {α : Type} : ∀ l : List (List α), 0 ≤ slen l
  | [] => Int.le_refl _
  | x :: l => by
    have := slen_nn l
    unfold slen
    omega
theorem slen_mem {α : Type} : ∀ (l : List (List α)) (x : List α), x ∈ l → (x.length : Int) ≤ slen l
  | [], x, h => by simp at h
  | y :: l, x, h => by
    have h0 := slen_nn l
    unfold slen
    cases List.mem_cons.1 h with
    | inl e => rw [e]; omega
    | inr e => have := slen_mem l x e; omega
theorem slen_map {α β : Type} (f : α → β) : ∀ l : List (List α), slen (l.map fun x => x.map f) = slen l
  | [] => rfl
  | x :: l => by
    have := slen_map f l
    simp only [List.map_cons, slen, List.length_map, this]

/-! ### netR -/
def clsOk (w h : Int) (br p q : List Int) : Prop := tableOk w h br p ∧ tableOk w h br q
/-- What of a network is told behind the tables. -/
def restOk (w h : Int) (B : List (List Fl)) (O T : List Int) (C A : List (List Fl)) (t : Int) : Prop :=
  ((B.length : Int) = 10 * ncR w h ∧ (O.length : Int) = 10 * ncR w h ∧ (T.length : Int) = 5 * ncR w h ∧ (C.length : Int) = ncR w h ∧ (A.length : Int) = ncR w h) ∧ (bufI w h 0 B && (srcB w h C && (rgB (-1) 4 O && (rgB 0 9 T && decide (0 ≤ t ∧ t ≤ 1000000))))) = true
def netOk (w h : Int) (br p q : List Int) (B : List (List Fl)) (O T : List Int) (C A : List (List Fl)) (t : Int) : Prop := clsOk w h br p q ∧ restOk w h B O T C A t

/-! ### ClassesOk_i -/
theorem ClassesOk_i (w h : Int) (br p q : List Int) (hbr : br.length < 1152921504606846976) : ∃ b, Ev (fun k => impl_ClassesOk.f k w h br p q) b ∧ (b = true ↔ clsOk w h br p q) := by
  obtain ⟨b, hb, hb2⟩ := TableOk_i w h br p hbr
  obtain ⟨c, hc, hc2⟩ := TableOk_i w h br q hbr
  unfold impl_ClassesOk.f clsOk
  by_cases h : b = true
  · exact ⟨c, Ev.bind hb (Ev.ite_pos h (Ev.bind hc (Ev.now _))), by rw [hc2]; exact ⟨fun z => ⟨hb2.1 h, z⟩, fun z => z.2⟩⟩
  · exact ⟨false, Ev.bind hb (Ev.ite_neg h (Ev.now _)), ⟨fun z => absurd z Bool.false_ne_true, fun z => absurd (hb2.2 z.1) h⟩⟩

/-! ### flits_i -/
theorem areFlits_l0 (w h : Int) : ∀ (rest pre : List Fl), pre.length + rest.length ≤ 1048576 → Ev (fun k => impl_areFlits.l0 k (pre ++ rest) ((pre ++ rest).length : Int) (pre.length : Int) w h) (flB w h rest)
  | [], pre, hl => by
    refine Ev.suc ?_
    simp only [impl_areFlits.l0]
    exact Ev.ite_neg (by simp) (Ev.val (by simp [flB]))
  | x :: rest, pre, hl => by
    simp only [List.length_cons] at hl
    have h1 : (pre.length : Int) < ((pre ++ x :: rest).length : Int) := by simp only [List.length_append, List.length_cons]; omega
    have hw : wrap64 ((pre.length : Int) + 1) = ((pre ++ [x]).length : Int) := by rw [w64 (by omega) (by omega), len_snoc]
    have ih := areFlits_l0 w h rest (pre ++ [x]) (by simp only [List.length_append, List.length_cons, List.length_nil]; omega)
    rw [← snoc_app pre x rest] at ih
    refine Ev.suc ?_
    simp only [impl_areFlits.l0, rdI_Flit, isNode_i, inside_f, Option.bind_some, decide_eq_true_eq, hw]
    refine Ev.ite_pos h1 (Ev.ite_pos (by omega) (Ev.ite_pos h1 (Ev.ite (fun a => Ev.ite (fun b => Ev.eq ih ?_) (fun b => Ev.val ?_)) (fun a => Ev.val ?_))))
    · simp [flB, a, b]
    · simp [flB, b]
    · simp [flB, a]
theorem areFlits_f (w h : Int) (l : List Fl) (hl : l.length ≤ 1048576) : Ev (fun k => impl_areFlits.f k w h l) (flB w h l) := by
  unfold impl_areFlits.f
  exact areFlits_l0 w h l [] (by simpa using hl)

/-! ### ClassOnly_i -/
theorem ClassOnly_i_l0 (c : Int) : ∀ (rest pre acc : List S79), acc.length ≤ pre.length → pre.length + rest.length ≤ 1048576 →
    Ev (fun k => impl_ClassOnly.l0 k c acc (pre ++ rest) ((pre ++ rest).length : Int) (pre.length : Int)) (acc ++ clsL c rest)
  | [], pre, acc, ha, hl => by
    refine Ev.suc ?_
    simp only [impl_ClassOnly.l0]
    exact Ev.ite_neg (by simp) (Ev.val (by simp [clsL]))
  | x :: rest, pre, acc, ha, hl => by
    simp only [List.length_cons] at hl
    have h1 : (pre.length : Int) < ((pre ++ x :: rest).length : Int) := by simp only [List.length_append, List.length_cons]; omega
    have hw : wrap64 ((pre.length : Int) + 1) = ((pre ++ [x]).length : Int) := by rw [w64 (by omega) (by omega), len_snoc]
    have ih := fun acc' h' => ClassOnly_i_l0 c rest (pre ++ [x]) acc' h' (by simp only [List.length_append, List.length_cons, List.length_nil]; omega)
    rw [← snoc_app pre x rest] at ih
    refine Ev.suc ?_
    simp only [impl_ClassOnly.l0, rdI_Flit, hw]
    refine Ev.ite_pos h1 (Ev.ite_pos (by omega) (Ev.ite_pos h1 (Ev.ite (fun h => Ev.ite_pos (by omega) ?_) (fun h => ?_))))
    · refine Ev.eq (ih (acc ++ [x]) (by simp; omega)) ?_
      simp [clsL, h]
    · refine Ev.eq (ih acc (by simp; omega)) ?_
      simp [clsL, h]
theorem ClassOnly_i (l : List S79) (c : Int) (h : l.length ≤ 1048576) : Ev (fun k => impl_ClassOnly.f k l c) (clsL c l) := by
  unfold impl_ClassOnly.f
  exact ClassOnly_i_l0 c l [] [] (Nat.le_refl _) (by simpa using h)

/-! ### areInside -/
theorem areInside_l0 (lo hi : Int) : ∀ (rest pre : List Int), pre.length + rest.length ≤ 1152921504606846976 →
    Ev (fun k => impl_areInside.l0 k lo hi (pre ++ rest) ((pre ++ rest).length : Int) (pre.length : Int)) (decide (∀ x ∈ rest, lo ≤ x ∧ x ≤ hi))
  | [], pre, _ => by
    refine Ev.suc ?_
    simp only [impl_areInside.l0]
    refine Ev.ite_neg (by simp) (Ev.val (by simp))
  | x :: rest, pre, hl => by
    simp only [List.length_cons] at hl
    have h1 : (pre.length : Int) < ((pre ++ x :: rest).length : Int) := by simp only [List.length_append, List.length_cons]; omega
    have hw : wrap64 ((pre.length : Int) + 1) = ((pre ++ [x]).length : Int) := by rw [w64 (by omega) (by omega), len_snoc]
    have ih := areInside_l0 lo hi rest (pre ++ [x]) (by simp only [List.length_append, List.length_cons, List.length_nil]; omega)
    refine Ev.suc ?_
    simp only [impl_areInside.l0, rd_mid, inside_f, Option.bind_some, decide_eq_true_eq, hw]
    refine Ev.ite_pos h1 (Ev.ite_pos (by omega) (Ev.ite_pos h1 ?_))
    refine Ev.ite (fun hx => ?_) (fun hx => Ev.val ?_)
    · rw [snoc_app pre x rest]
      refine Ev.eq ih ?_
      rw [decide_eq_decide]
      simp [hx]
    · symm
      rw [decide_eq_false_iff_not]
      intro h
      exact hx (h x List.mem_cons_self)
theorem areInside_f (l : List Int) (lo hi : Int) (h : l.length ≤ 1152921504606846976) : Ev (fun k => impl_areInside.f k l lo hi) (decide (∀ x ∈ l, lo ≤ x ∧ x ≤ hi)) := by
  unfold impl_areInside.f
  exact areInside_l0 lo hi l [] (by simpa using h)

/-! ### NetOk_i -/
theorem areInside_rg (l : List Int) (lo hi : Int) (h : l.length ≤ 1048576) : Ev (fun k => impl_areInside.f k l lo hi) (rgB lo hi l) := by
  refine Ev.eq (areInside_f l lo hi (by omega)) ?_
  rw [Bool.eq_iff_iff]
  simp [rgB]
theorem NetOk_i_l1 (w h : Int) (br p q : List Int) (B : List (List Fl)) (O T : List Int) (C A : List (List Fl)) (t : Int) (hO : O.length ≤ 1048576) (hT : T.length ≤ 1048576) : ∀ (rest pre : List (List Fl)), pre.length + rest.length ≤ 1048576 → (∀ x ∈ rest, x.length ≤ 1048576) →
    Ev (fun k => impl_NetOk.l1 k (pre ++ rest) ((pre ++ rest).length : Int) (pre.length : Int) w h br p q B O T C A t) (srcB w h rest && (rgB (-1) 4 O && (rgB 0 9 T && decide (0 ≤ t ∧ t ≤ 1000000))))
  | [], pre, hl, hx => by
    refine Ev.suc ?_
    simp only [impl_NetOk.l1, inside_f, Option.bind_some]
    refine Ev.ite_neg (by simp) (Ev.bind (areInside_rg O (-1) 4 hO) ?_)
    refine Ev.ite (fun a => Ev.bind (areInside_rg T 0 9 hT) (Ev.ite (fun b => Ev.val ?_) (fun b => Ev.val ?_))) (fun a => Ev.val ?_)
    · simp [srcB, a, b]
    · simp [srcB, b]
    · simp [srcB, a]
  | x :: rest, pre, hl, hx => by
    simp only [List.length_cons] at hl
    have h1 : (pre.length : Int) < ((pre ++ x :: rest).length : Int) := by simp only [List.length_append, List.length_cons]; omega
    have hw : wrap64 ((pre.length : Int) + 1) = ((pre ++ [x]).length : Int) := by rw [w64 (by omega) (by omega), len_snoc]
    have ih := NetOk_i_l1 w h br p q B O T C A t hO hT rest (pre ++ [x]) (by simp only [List.length_append, List.length_cons, List.length_nil]; omega) (fun y hy => hx y (List.mem_cons_of_mem _ hy))
    rw [← snoc_app pre x rest] at ih
    have hx0 := hx x List.mem_cons_self
    refine Ev.suc ?_
    simp only [impl_NetOk.l1, rdI_FlitSS, hw]
    refine Ev.ite_pos h1 (Ev.ite_pos (by omega) (Ev.ite_pos h1 (Ev.ite (fun a => Ev.val ?_) (fun a => Ev.bind (areFlits_f w h x hx0) (Ev.ite (fun b => Ev.eq ih ?_) (fun b => Ev.val ?_))))))
    · have : ¬ x.length ≤ 60 := by omega
      simp [srcB, this]
    · have : x.length ≤ 60 := by omega
      simp [srcB, this, b]
    · simp [srcB, b]
theorem NetOk_i_l0 (w h : Int) (br p q : List Int) (B : List (List Fl)) (O T : List Int) (C A : List (List Fl)) (t : Int) (R : Bool) (hR : Ev (fun k => impl_NetOk.l1 k C (C.length : Int) 0 w h br p q B O T C A t) R) : ∀ (rest pre : List (List Fl)), pre.length + rest.length ≤ 1048576 → (∀ x ∈ rest, x.length ≤ 1048576) →
    Ev (fun k => impl_NetOk.l0 k (pre ++ rest) ((pre ++ rest).length : Int) (pre.length : Int) w h br p q B O T C A t) (bufI w h pre.length rest && R)
  | [], pre, hl, hx => by
    refine Ev.suc ?_
    simp only [impl_NetOk.l0]
    exact Ev.ite_neg (by simp) (Ev.eq hR (by simp [bufI]))
  | x :: rest, pre, hl, hx => by
    simp only [List.length_cons] at hl
    have h1 : (pre.length : Int) < ((pre ++ x :: rest).length : Int) := by simp only [List.length_append, List.length_cons]; omega
    have hw : wrap64 ((pre.length : Int) + 1) = ((pre ++ [x]).length : Int) := by rw [w64 (by omega) (by omega), len_snoc]
    have ih := NetOk_i_l0 w h br p q B O T C A t R hR rest (pre ++ [x]) (by simp only [List.length_append, List.length_cons, List.length_nil]; omega) (fun y hy => hx y (List.mem_cons_of_mem _ hy))
    rw [← snoc_app pre x rest] at ih
    have hx0 := hx x List.mem_cons_self
    have hcl := clsL_all (Int.tmod (pre.length : Int) 2) x
    have hlen : (pre ++ [x]).length = pre.length + 1 := by simp
    rw [hlen] at ih
    refine Ev.suc ?_
    simp only [impl_NetOk.l0, rdI_FlitSS, hw]
    rw [len_snoc]
    refine Ev.ite_pos h1 (Ev.ite_pos (by omega) (Ev.ite_pos h1 (Ev.ite (fun a => Ev.val ?_) (fun a => Ev.bind (ClassOnly_i x (Int.tmod (pre.length : Int) 2) hx0) (Ev.ite (fun c => Ev.bind (areFlits_f w h x hx0) (Ev.ite (fun b => Ev.eq ih ?_) (fun b => Ev.val ?_))) (fun c => Ev.val ?_))))))
    · have : ¬ x.length ≤ 3 := by omega
      simp [bufI, this]
    · have h3 : x.length ≤ 3 := by omega
      have h4 := hcl.1 (by omega)
      simp [bufI, h3, h4, b]
    · simp [bufI, b]
    · have h4 : ¬ clB (Int.tmod (pre.length : Int) 2) x = true := fun z => c (by have := hcl.2 z; omega)
      simp [bufI, h4]
theorem NetOk_i (w h : Int) (br p q : List Int) (B : List (List Fl)) (O T : List Int) (C A : List (List Fl)) (t : Int) (hbr : br.length ≤ 1048576) (hB : B.length ≤ 1048576 ∧ slen B ≤ 1048576) (hO : O.length ≤ 1048576) (hT : T.length ≤ 1048576) (hC : C.length ≤ 1048576 ∧ slen C ≤ 1048576) :
    ∃ b, Ev (fun k => impl_NetOk.f k w h br p q B O T C A t) b ∧ (b = true ↔ netOk w h br p q B O T C A t) := by
  obtain ⟨b, hb, hb2⟩ := ClassesOk_i w h br p q (by omega)
  have hn := ncR_b w h
  have w10 : wrap64 (10 * ncR w h) = 10 * ncR w h := w64 (by omega) (by omega)
  have w5 : wrap64 (5 * ncR w h) = 5 * ncR w h := w64 (by omega) (by omega)
  have e1 := NetOk_i_l1 w h br p q B O T C A t hO hT C [] (by simp; omega) (fun x hm => by have := slen_mem C x hm; omega)
  have e0 := NetOk_i_l0 w h br p q B O T C A t _ e1 B [] (by simp; omega) (fun x hm => by have := slen_mem B x hm; omega)
  have ef : Ev (fun k => impl_NetOk.j0 k true w h br p q B O T C A t) false := by
    refine Ev.suc ?_
    simp only [impl_NetOk.j0]
    exact Ev.ite_pos trivial (Ev.now _)
  unfold netOk restOk
  have no : ∀ (c : Prop), ¬ c → (false = true ↔ c) := fun c hc => ⟨fun z => absurd z Bool.false_ne_true, fun z => absurd z hc⟩
  by_cases c0 : b = true
  · by_cases cB : (B.length : Int) = 10 * ncR w h
    · by_cases cO : (O.length : Int) = 10 * ncR w h
      · by_cases cT : (T.length : Int) = 5 * ncR w h
        · by_cases cC : (C.length : Int) = ncR w h
          · by_cases cA : (A.length : Int) = ncR w h
            · refine ⟨bufI w h 0 B && (srcB w h C && (rgB (-1) 4 O && (rgB 0 9 T && decide (0 ≤ t ∧ t ≤ 1000000)))), ?_, ?_⟩
              · unfold impl_NetOk.f
                simp only [NodeCount_i, Option.bind_some, w10, w5]
                refine Ev.bind hb (Ev.ite_pos c0 (Ev.ite_pos cB (Ev.ite_pos cO (Ev.ite_pos cT (Ev.ite_pos cC (Ev.suc ?_))))))
                simp only [impl_NetOk.j0]
                exact Ev.ite_neg (by simp [cA]) e0
              · exact ⟨fun z => ⟨hb2.1 c0, ⟨cB, cO, cT, cC, cA⟩, z⟩, fun z => z.2.2⟩
            · refine ⟨false, ?_, no _ (fun z => cA z.2.1.2.2.2.2)⟩
              unfold impl_NetOk.f
              simp only [NodeCount_i, Option.bind_some, w10, w5]
              refine Ev.bind hb (Ev.ite_pos c0 (Ev.ite_pos cB (Ev.ite_pos cO (Ev.ite_pos cT (Ev.ite_pos cC (Ev.suc ?_))))))
              simp only [impl_NetOk.j0]
              exact Ev.ite_pos (by simp [cA]) (Ev.now _)
          · refine ⟨false, ?_, no _ (fun z => cC z.2.1.2.2.2.1)⟩
            unfold impl_NetOk.f
            simp only [NodeCount_i, Option.bind_some, w10, w5]
            exact Ev.bind hb (Ev.ite_pos c0 (Ev.ite_pos cB (Ev.ite_pos cO (Ev.ite_pos cT (Ev.ite_neg cC ef)))))
        · refine ⟨false, ?_, no _ (fun z => cT z.2.1.2.2.1)⟩
          unfold impl_NetOk.f
          simp only [NodeCount_i, Option.bind_some, w10, w5]
          exact Ev.bind hb (Ev.ite_pos c0 (Ev.ite_pos cB (Ev.ite_pos cO (Ev.ite_neg cT ef))))
      · refine ⟨false, ?_, no _ (fun z => cO z.2.1.2.1)⟩
        unfold impl_NetOk.f
        simp only [NodeCount_i, Option.bind_some, w10, w5]
        exact Ev.bind hb (Ev.ite_pos c0 (Ev.ite_pos cB (Ev.ite_neg cO ef)))
    · refine ⟨false, ?_, no _ (fun z => cB z.2.1.1)⟩
      unfold impl_NetOk.f
      simp only [NodeCount_i, Option.bind_some, w10, w5]
      exact Ev.bind hb (Ev.ite_pos c0 (Ev.ite_neg cB ef))
  · refine ⟨false, ?_, no _ (fun z => c0 (hb2.2 z.1))⟩
    unfold impl_NetOk.f
    simp only [NodeCount_i, Option.bind_some, w10, w5]
    exact Ev.bind hb (Ev.ite_neg c0 ef)

/-! ### flitsIn_i -/
theorem flitsIn_i_l0 : ∀ (rest pre : List (List S79)) (n : Int), 0 ≤ n → n + slen rest ≤ 1048576 → pre.length + rest.length ≤ 1048576 → Ev (fun k => impl_flitsIn.l0 k n (pre ++ rest) ((pre ++ rest).length : Int) (pre.length : Int)) (n + slen rest)
  | [], pre, n, h0, h2, hl => by
    refine Ev.suc ?_
    simp only [impl_flitsIn.l0]
    exact Ev.ite_neg (by simp) (Ev.val (by simp [slen]))
  | x :: rest, pre, n, h0, h2, hl => by
    simp only [List.length_cons, slen] at hl h2
    have s0 := slen_nn rest
    have h1 : (pre.length : Int) < ((pre ++ x :: rest).length : Int) := by simp only [List.length_append, List.length_cons]; omega
    have hw : wrap64 ((pre.length : Int) + 1) = ((pre ++ [x]).length : Int) := by rw [w64 (by omega) (by omega), len_snoc]
    have hw2 : wrap64 (n + (x.length : Int)) = n + (x.length : Int) := w64 (by omega) (by omega)
    have ih := flitsIn_i_l0 rest (pre ++ [x]) (n + (x.length : Int)) (by omega) (by omega) (by simp only [List.length_append, List.length_cons, List.length_nil]; omega)
    rw [← snoc_app pre x rest] at ih
    refine Ev.suc ?_
    simp only [impl_flitsIn.l0, rdI_FlitSS, hw, hw2]
    refine Ev.ite_pos h1 (Ev.ite_pos (by omega) (Ev.ite_pos h1 (Ev.eq ih ?_)))
    simp only [slen]
    omega
theorem flitsIn_i (l : List (List S79)) (hl : l.length ≤ 1048576 ∧ slen l ≤ 1048576) : Ev (fun k => impl_flitsIn.f k l) (slen l) := by
  unfold impl_flitsIn.f
  exact Ev.eq (flitsIn_i_l0 l [] 0 (by omega) (by omega) (by simp; omega)) (by omega)

/-! ### netNew_i -/
theorem slen_rep (n : Nat) : slen (List.replicate n ([] : List S79)) = 0 := by
  induction n with
  | zero => rfl
  | succ n ih => rw [List.replicate_succ]; simp only [slen, ih]; rfl
theorem bufI_rep (w h : Int) : ∀ (n i : Nat), bufI w h i (List.replicate n []) = true
  | 0, _ => rfl
  | n + 1, i => by
    rw [List.replicate_succ]
    simp only [bufI, bufI_rep w h n (i + 1), clB, flB, List.all_nil, List.length_nil, Bool.and_true]
    decide
theorem NetNew_l0 (w h : Int) (br A B : List Int) (Bu : List (List S79)) (T : List Int) (C Ar : List (List S79)) : ∀ (d i : Nat), i + d ≤ 1048576 →
    Ev (fun k => impl_NetNew.l0 k ((i + d : Nat) : Int) (i : Int) w h br A B Bu (List.replicate i (-1)) T C Ar 0) (w, h, br, A, B, Bu, List.replicate (i + d) (-1), T, C, Ar, 0, true)
  | 0, i, hd => by
    refine Ev.suc ?_
    simp only [impl_NetNew.l0]
    exact Ev.ite_neg (by omega) (Ev.now _)
  | d + 1, i, hd => by
    have ih := NetNew_l0 w h br A B Bu T C Ar d (i + 1) (by omega)
    have e : List.replicate i (-1 : Int) ++ [-1] = List.replicate (i + 1) (-1) := by rw [← List.replicate_succ']
    have hw : wrap64 ((i : Int) + 1) = ((i + 1 : Nat) : Int) := by rw [w64 (by omega) (by omega)]; omega
    rw [show i + (d + 1) = i + 1 + d by omega]
    refine Ev.suc ?_
    simp only [impl_NetNew.l0, e, hw]
    exact Ev.ite_pos (by omega) (Ev.ite_pos (by rw [List.length_replicate]; omega) ih)
theorem copyMesh_0 (w h : Int) : impl_copyMesh.f w h [] = some (w, h, []) := by
  unfold impl_copyMesh.f
  simp
theorem copyClasses_2 {A B : List Int} (lA : A.length ≤ 1048576) (lB : B.length ≤ 1048576) : impl_copyClasses.f A B = some (A, B) := by
  unfold impl_copyClasses.f impl_copyTable.f
  simp only [Option.bind_some, List.length_nil, List.nil_append, Nat.zero_add]
  rw [if_pos (by omega), if_pos (by omega)]
  rfl
theorem NetNew_i {w h : Int} {A B : List Int} (lA : A.length ≤ 1048576) (lB : B.length ≤ 1048576) (tA : tableOk w h [] A) (tB : tableOk w h [] B) {n : Nat} (hn : (n : Int) = ncR w h) :
    Ev (fun k => impl_NetNew.f k w h [] A B) (w, h, [], A, B, List.replicate (10 * n) [], List.replicate (10 * n) (-1), List.replicate (5 * n) 0, List.replicate n [], List.replicate n [], 0, true) := by
  have hnb := ncR_b w h
  have hb0 : ([] : List Int).length < 1152921504606846976 := by decide
  obtain ⟨c, ec, ec2⟩ := ClassesOk_i w h [] A B hb0
  have q5 : wrap64 (5 * ncR w h) = ((5 * n : Nat) : Int) := by rw [w64 (by omega) (by omega)]; omega
  have q10 : wrap64 (10 * ncR w h) = ((10 * n : Nat) : Int) := by rw [w64 (by omega) (by omega)]; omega
  have z := NetNew_l0 w h [] A B (List.replicate (10 * n) []) (List.replicate (5 * n) 0) (List.replicate n []) (List.replicate n []) (10 * n) 0 (by omega)
  rw [Nat.zero_add] at z
  unfold impl_NetNew.f
  refine Ev.bind ec (Ev.ite_pos (ec2.2 ⟨tA, tB⟩) ?_)
  simp only [NodeCount_i, copyMesh_0, copyClasses_2 lA lB, Option.bind_some, q5, q10, Int.toNat_natCast]
  rw [← hn]
  simp only [Int.toNat_natCast]
  exact Ev.ite_pos (by omega) (Ev.ite_pos (by omega) (Ev.ite_pos (by omega) (Ev.ite_pos (by omega) (Ev.ite_pos (by omega) (Ev.ite_pos (by omega) z)))))
/-- A network without a flit in its buffers is valid with any flits that wait. -/
theorem NetOk_new {w h : Int} {A B : List Int} (tA : tableOk w h [] A) (tB : tableOk w h [] B) {n : Nat} (hn : (n : Int) = ncR w h) (C : List (List Fl)) (hC : C.length = n) (hs : slen C ≤ 1048576) (hsrc : srcB w h C = true) :
    Ev (fun k => impl_NetOk.f k w h [] A B (List.replicate (10 * n) []) (List.replicate (10 * n) (-1)) (List.replicate (5 * n) 0) C (List.replicate n []) 0) true := by
  have hnb := ncR_b w h
  have sB : slen (List.replicate (10 * n) ([] : List S79)) = 0 := slen_rep _
  obtain ⟨y', hy, hy2⟩ := NetOk_i w h [] A B (List.replicate (10 * n) []) (List.replicate (10 * n) (-1)) (List.replicate (5 * n) 0) C (List.replicate n []) 0 (by simp) ⟨by simp; omega, by omega⟩ (by simp; omega) (by simp; omega) ⟨by omega, hs⟩
  have hok : y' = true := by
    refine hy2.2 ⟨⟨tA, tB⟩, ⟨?_, ?_, ?_, ?_, ?_⟩, ?_⟩
    · simp only [List.length_replicate]; omega
    · simp only [List.length_replicate]; omega
    · simp only [List.length_replicate]; omega
    · rw [hC]; exact hn
    · simp only [List.length_replicate]; omega
    · have r2 : rgB (-1) 4 (List.replicate (10 * n) (-1)) = true := by
        refine List.all_eq_true.2 (fun x hx => ?_)
        rw [List.eq_of_mem_replicate hx]
        rfl
      have r3 : rgB 0 9 (List.replicate (5 * n) 0) = true := by
        refine List.all_eq_true.2 (fun x hx => ?_)
        rw [List.eq_of_mem_replicate hx]
        rfl
      rw [bufI_rep, hsrc, r2, r3]
      rfl
  rw [← hok]
  exact hy

/-! ### pk -/
abbrev pkOk (w h i f t c l : Int) : Prop := (1 ≤ i ∧ i ≤ 9999) ∧ nodeOk w h f ∧ nodeOk w h t ∧ f ≠ t ∧ (0 ≤ c ∧ c ≤ 1) ∧ (1 ≤ l ∧ l ≤ 5)

/-! ### FlitsOf -/
def flitAt (i t c l : Int) (j : Nat) : S79 := ⟨i, t, c, ((j : Int) == 0), ((j : Int) == l - 1)⟩
def flitsL (w h i f t c l : Int) : List S79 := if pkOk w h i f t c l then (List.range l.toNat).map (flitAt i t c l) else []
theorem flitsL_len (w h i f t c l : Int) : (flitsL w h i f t c l).length ≤ 5 := by
  unfold flitsL
  split
  · rename_i hp
    rw [List.length_map, List.length_range]
    have := hp.2.2.2.2.2
    omega
  · simp

/-! ### PacketOk_i -/
theorem PacketOk_i (w h i f t c l : Int) : impl_PacketOk.f w h i f t c l = some (decide (pkOk w h i f t c l)) := by
  unfold impl_PacketOk.f pkOk
  simp only [inside_f, isNode_i, Option.bind_some, decide_eq_true_eq]
  by_cases h1 : 1 ≤ i ∧ i ≤ 9999
  case neg => simp [h1]
  by_cases h2 : nodeOk w h f
  case neg => simp [h2]
  by_cases h3 : nodeOk w h t
  case neg => simp [h3]
  by_cases h4 : f = t
  case pos => simp [h4]
  by_cases h5 : 0 ≤ c ∧ c ≤ 1
  case neg => simp [h5]
  rw [if_pos h1, if_pos h2, if_pos h3, if_neg h4, if_pos h5]
  congr 1
  rw [decide_eq_decide]
  exact ⟨fun h => ⟨h1, h2, h3, h4, h5, h⟩, fun h => h.2.2.2.2.2⟩

/-! ### FlitsOf_i -/
theorem FlitsOf_i_l0 (i f t c l : Int) (hl : 1 ≤ l ∧ l ≤ 5) : ∀ (d j : Nat), (j : Int) + d = l →
    Ev (fun k => impl_FlitsOf.l0 k ((List.range j).map (flitAt i t c l)) l (j : Int) i f t c l) ((List.range l.toNat).map (flitAt i t c l))
  | 0, j, h => by
    refine Ev.suc ?_
    simp only [impl_FlitsOf.l0]
    refine Ev.ite_neg (by omega) (Ev.val ?_)
    have : j = l.toNat := by omega
    rw [this]
  | d + 1, j, h => by
    have ih := FlitsOf_i_l0 i f t c l hl d (j + 1) (by omega)
    have hw : wrap64 ((j : Int) + 1) = ((j + 1 : Nat) : Int) := by rw [w64 (by omega) (by omega)]; omega
    have hv : wrap64 (l - 1) = l - 1 := w64 (by omega) (by omega)
    have hs : (List.range j).map (flitAt i t c l) ++ [(⟨i, t, c, ((j : Int) == 0), ((j : Int) == l - 1)⟩ : S79)] = (List.range (j + 1)).map (flitAt i t c l) := by
      rw [List.range_succ, List.map_append]
      rfl
    refine Ev.suc ?_
    simp only [impl_FlitsOf.l0, hw, hv, hs]
    exact Ev.ite_pos (by omega) (Ev.ite_pos (by simp; omega) ih)
theorem FlitsOf_i (w h i f t c l : Int) : Ev (fun k => impl_FlitsOf.f k w h i f t c l) (flitsL w h i f t c l) := by
  unfold impl_FlitsOf.f flitsL
  refine Ev.bindS rfl (Ev.bindS (PacketOk_i w h i f t c l) ?_)
  simp only [decide_eq_true_eq]
  refine Ev.ite (fun hp => ?_) (fun hp => Ev.val ?_)
  · rw [if_pos hp]
    have hl := hp.2.2.2.2.2
    exact FlitsOf_i_l0 i f t c l hl l.toNat 0 (by omega)
  · rw [if_neg hp]

/-! ### drawPacket -/
theorem l14Grid_f (b : List Int) (i h : Int) (hc : CurOk b i) : ∃ w g i' h', spec_l14Grid.f b i h = some (w, g, i', h') ∧ 2 ≤ ncR w g ∧ CurOk b i' := by
  obtain ⟨w, g, i1, h1, e1, k, c1⟩ := l02Grid_f b i h hc
  unfold spec_l14Grid.f
  rw [e1, Option.bind_some]
  simp only [NodeCount_s, Option.bind_some]
  by_cases c : ncR w g < 2
  · refine ⟨2, g, i1, h1, if_pos c, ?_, c1⟩
    have : ncR 2 g = 2 * g := if_pos ⟨by omega, by omega, k.2.2.1, k.2.2.2⟩
    omega
  · exact ⟨w, g, i1, h1, if_neg c, by omega, c1⟩
theorem next_mod (n a r : Int) (ha : 0 ≤ a ∧ a < n) (hr : 0 ≤ r ∧ r < n - 1) : 0 ≤ (a + 1 + r) % n ∧ (a + 1 + r) % n ≤ n - 1 ∧ a ≠ (a + 1 + r) % n := by
  by_cases c : a + 1 + r < n
  · rw [Int.emod_eq_of_lt (by omega) c]
    omega
  · have e : (a + 1 + r) % n = a + 1 + r - n := by
      rw [← Int.sub_emod_right]
      exact Int.emod_eq_of_lt (by omega) (by omega)
    rw [e]
    omega
theorem l14Packet_f (b : List Int) (i h w g d : Int) (hc : CurOk b i) (hn : 2 ≤ ncR w g) (hd : 1 ≤ d ∧ d ≤ 9999) : ∃ f t c l i' h', spec_l14Packet.f b i h w g d = some (d, f, t, c, l, i', h') ∧ pkOk w g d f t c l ∧ CurOk b i' := by
  have hb := ncR_b w g
  obtain ⟨a, i1, h1, e1, a0, a1, _, c1⟩ := l01Below_f b i h (ncR w g) hc
  obtain ⟨r, i2, h2, e2, r0, r1, _, c2⟩ := l01Below_f b i1 h1 (ncR w g - 1) c1
  obtain ⟨c, i3, h3, e3, q0, q1, _, c3⟩ := l01Below_f b i2 h2 2 c2
  obtain ⟨l, i4, h4, e4, l0, l1, _, c4⟩ := l01Below_f b i3 h3 5 c3
  have a2 := a1 (by omega)
  have r2 := r1 (by omega)
  have q2 := q1 (by omega)
  have l2 := l1 (by omega)
  have m := next_mod (ncR w g) a r ⟨a0, a2⟩ ⟨r0, r2⟩
  have w1 : wrap64 (ncR w g - 1) = ncR w g - 1 := w64 (by omega) (by omega)
  have w2 : wrap64 (a + 1) = a + 1 := w64 (by omega) (by omega)
  have w3 : wrap64 (a + 1 + r) = a + 1 + r := w64 (by omega) (by omega)
  have w4 : wrap64 (1 + l) = 1 + l := w64 (by omega) (by omega)
  have t1 : Int.tmod (a + 1 + r) (ncR w g) = (a + 1 + r) % ncR w g := Int.tmod_eq_emod_of_nonneg (by omega)
  have nz : ¬ ncR w g = 0 := by omega
  refine ⟨a, (a + 1 + r) % ncR w g, c, 1 + l, i4, h4, ?_, ⟨hd, ⟨a0, by omega⟩, ⟨m.1, m.2.1⟩, m.2.2, ⟨q0, by omega⟩, ⟨by omega, by omega⟩⟩, c4⟩
  unfold spec_l14Packet.f
  simp only [NodeCount_s, Option.bind_some, e1, w1, e2, if_neg nz, e3, e4, w2, w3, t1, w4]

/-! ### rdPacket -/
theorem rdI_Packet (pre : List S44) (x : S44) (rest : List S44) : rd_T44 (pre ++ x :: rest) (pre.length : Int) = x := getD_mid pre x rest _

/-! ### nbL_i -/
def nbL : Int → List S44 → List S44
  | _, [] => []
  | i, x :: l => ⟨i + 1, x.f1, x.f2, x.f3, x.f4⟩ :: nbL (i + 1) l
theorem nbL_len : ∀ (l : List S44) (i : Int), (nbL i l).length = l.length
  | [], _ => rfl
  | x :: l, i => by simp only [nbL, List.length_cons, nbL_len l]
theorem NumberPackets_i_l0 : ∀ (rest pre acc : List S44), acc.length = pre.length → pre.length + rest.length ≤ 1048576 →
    Ev (fun k => impl_NumberPackets.l0 k acc (pre ++ rest) ((pre ++ rest).length : Int) (pre.length : Int)) (acc ++ nbL (pre.length : Int) rest)
  | [], pre, acc, ha, hl => by
    refine Ev.suc ?_
    simp only [impl_NumberPackets.l0]
    exact Ev.ite_neg (by simp) (Ev.val (by simp [nbL]))
  | x :: rest, pre, acc, ha, hl => by
    simp only [List.length_cons] at hl
    have h1 : (pre.length : Int) < ((pre ++ x :: rest).length : Int) := by simp only [List.length_append, List.length_cons]; omega
    have hw : wrap64 ((pre.length : Int) + 1) = (pre.length : Int) + 1 := w64 (by omega) (by omega)
    have hs : (pre.length : Int) + 1 = ((pre ++ [x]).length : Int) := by rw [len_snoc]
    have ih := NumberPackets_i_l0 rest (pre ++ [x]) (acc ++ [⟨(pre.length : Int) + 1, x.f1, x.f2, x.f3, x.f4⟩]) (by simp [ha]) (by simp only [List.length_append, List.length_cons, List.length_nil]; omega)
    rw [← hs, ← snoc_app pre x rest] at ih
    refine Ev.suc ?_
    simp only [impl_NumberPackets.l0, rdI_Packet, hw]
    refine Ev.ite_pos h1 (Ev.ite_pos (by omega) (Ev.ite_pos h1 (Ev.ite_pos (by omega) ?_)))
    refine Ev.eq ih ?_
    simp [nbL]
theorem NumberPackets_i (l : List S44) (h : l.length ≤ 1048576) : Ev (fun k => impl_NumberPackets.f k l) (nbL 0 l) := by
  unfold impl_NumberPackets.f
  exact NumberPackets_i_l0 l [] [] rfl (by simpa using h)

/-! ### dbl -/
/-- No element and an elder one are in C. -/
def dblR {α : Type} (C : α → α → Bool) : List α → List α → Bool
  | _, [] => true
  | pre, x :: rest => pre.all (fun y => !C x y) && dblR C (pre ++ [x]) rest
theorem mid_app {α : Type} (p : List α) (y : α) (q : List α) (x : α) (r : List α) : p ++ y :: q ++ x :: r = p ++ y :: (q ++ x :: r) := by simp
theorem snoc_app2 {α : Type} (p : List α) (y : α) (q : List α) : p ++ y :: q = p ++ [y] ++ q := by simp

/-! ### IdsDistinct_C -/
def idsC (x y : S44) : Bool := decide (x.f0 = y.f0)

/-! ### IdsDistinct_i -/
theorem IdsDistinct_i_l1 (R : Bool) (x : S44) (X : List S44) (n i : Int) (pre : List S44) (hR : Ev (fun k => impl_IdsDistinct.l0 k X X n (wrap64 (i + 1))) R) : ∀ (q p : List S44), p ++ q = pre → pre.length < 1152921504606846976 →
    Ev (fun k => impl_IdsDistinct.l1 k X X n i pre (pre.length : Int) (p.length : Int) x.f0 x.f1 x.f2 x.f3 x.f4) (q.all (fun y => !idsC x y) && R)
  | [], p, hp, hl => by
    subst hp
    refine Ev.suc ?_
    simp only [impl_IdsDistinct.l1]
    exact Ev.ite_neg (by simp) (Ev.eq hR (by simp))
  | y :: q, p, hp, hl => by
    have hp' : p ++ [y] ++ q = pre := by
      rw [← hp]
      simp
    have ih' := IdsDistinct_i_l1 R x X n i pre hR q (p ++ [y]) hp' hl
    subst hp
    have h1 : (p.length : Int) < ((p ++ y :: q).length : Int) := by simp only [List.length_append, List.length_cons]; omega
    have hw : wrap64 ((p.length : Int) + 1) = ((p ++ [y]).length : Int) := by rw [w64 (by omega) (by omega), len_snoc]
    refine Ev.suc ?_
    simp only [impl_IdsDistinct.l1, rdI_Packet, hw]
    refine Ev.ite_pos h1 (Ev.ite_pos (by omega) (Ev.ite_pos h1 ?_))
    have hall : ∀ b : Bool, idsC x y = b → ((y :: q).all (fun y => !idsC x y) && R) = (!b && (q.all (fun y => !idsC x y) && R)) := fun b hb => by
      rw [List.all_cons, hb, Bool.and_assoc]
    refine Ev.ite (fun h => Ev.val ?_) (fun h => ?_)
    · rw [hall true (by simp [idsC, h])]
      rfl
    · rw [hall false (by simp [idsC]; exact fun e => h e.symm)]
      exact ih'
theorem IdsDistinct_i_l0 : ∀ (rest pre : List S44), pre.length + rest.length < 1152921504606846976 → Ev (fun k => impl_IdsDistinct.l0 k (pre ++ rest) (pre ++ rest) ((pre ++ rest).length : Int) (pre.length : Int)) (dblR idsC pre rest)
  | [], pre, hl => by
    refine Ev.suc ?_
    simp only [impl_IdsDistinct.l0]
    exact Ev.ite_neg (by simp) (Ev.val (by simp [dblR]))
  | x :: rest, pre, hl => by
    simp only [List.length_cons] at hl
    have h1 : (pre.length : Int) < ((pre ++ x :: rest).length : Int) := by simp only [List.length_append, List.length_cons]; omega
    have hw : wrap64 ((pre.length : Int) + 1) = ((pre ++ [x]).length : Int) := by rw [w64 (by omega) (by omega), len_snoc]
    have ih := IdsDistinct_i_l0 rest (pre ++ [x]) (by simp only [List.length_append, List.length_cons, List.length_nil]; omega)
    rw [← snoc_app pre x rest, ← hw] at ih
    have ht : (pre ++ x :: rest).take (pre.length : Int).toNat = pre := by simp
    refine Ev.suc ?_
    simp only [impl_IdsDistinct.l0, rdI_Packet]
    refine Ev.ite_pos h1 (Ev.ite_pos (by omega) (Ev.ite_pos h1 (Ev.ite_pos (by omega) (Ev.bindS rfl ?_))))
    rw [ht]
    exact IdsDistinct_i_l1 _ x _ _ _ pre ih pre [] rfl (by omega)
theorem IdsDistinct_i (l : List S44) (h : l.length ≤ 1048576) : Ev (fun k => impl_IdsDistinct.f k l) (dblR idsC [] l) := by
  unfold impl_IdsDistinct.f
  exact IdsDistinct_i_l0 l [] (by simp; omega)

/-! ### packets -/
theorem nbL_app : ∀ (l : List S44) (x : S44) (i : Int), nbL i (l ++ [x]) = nbL i l ++ [⟨i + (l.length : Int) + 1, x.f1, x.f2, x.f3, x.f4⟩]
  | [], x, i => by simp [nbL]
  | y :: l, x, i => by
    have ih := nbL_app l x (i + 1)
    simp only [List.cons_append, nbL, ih, List.length_cons]
    rw [show i + 1 + (l.length : Int) + 1 = i + ((l.length + 1 : Nat) : Int) + 1 by omega]
theorem nbL_dbl : ∀ (l pre : List S44) (i : Int), (∀ y ∈ pre, y.f0 ≤ i) → dblR idsC pre (nbL i l) = true
  | [], _, _, _ => rfl
  | x :: l, pre, i, h => by
    have ih := nbL_dbl l (pre ++ [⟨i + 1, x.f1, x.f2, x.f3, x.f4⟩]) (i + 1) (fun y hy => by
      rcases List.mem_append.1 hy with hy | hy
      · have := h y hy; omega
      · rw [List.mem_singleton] at hy; subst hy; exact Int.le_refl _)
    simp only [nbL, dblR, ih, Bool.and_true, List.all_eq_true, idsC, Bool.not_eq_true', decide_eq_false_iff_not]
    intro y hy e
    have := h y hy
    omega
def pksOk (w g : Int) (L : List S44) : Prop := nbL 0 L = L ∧ ∀ x ∈ L, pkOk w g x.f0 x.f1 x.f2 x.f3 x.f4
theorem l16Packets_l0 (b : List Int) (w g : Int) (hn : 2 ≤ ncR w g) : ∀ (d : Nat) (L : List S44) (i h : Int), L.length + d = 6 → CurOk b i → pksOk w g L →
    ∃ L' i' h', Ev (fun k => spec_l16Packets.l0 k L (L.length : Int) b i h w g) (L', i', h') ∧ L'.length ≤ 6 ∧ pksOk w g L' ∧ CurOk b i'
  | d, L, i, h, hd, hc, hL => by
    obtain ⟨r, i1, h1, e1, r0, r1, _, c1⟩ := l01Below_f b i h 7 hc
    have r2 := r1 (by omega)
    by_cases c : (L.length : Int) < r
    · cases d with
      | zero => omega
      | succ d =>
        obtain ⟨f, t, cl, l, i2, h2, e2, hp, c2⟩ := l14Packet_f b i1 h1 w g ((L.length : Int) + 1) c1 hn (by omega)
        have hw : wrap64 ((L.length : Int) + 1) = (L.length : Int) + 1 := w64 (by omega) (by omega)
        have hL2 : pksOk w g (L ++ [⟨(L.length : Int) + 1, f, t, cl, l⟩]) := by
          refine ⟨by rw [nbL_app, hL.1, Int.zero_add], fun x hx => ?_⟩
          rcases List.mem_append.1 hx with hx | hx
          · exact hL.2 x hx
          · rw [List.mem_singleton] at hx; subst hx; exact hp
        obtain ⟨L', i', h', e, q1, q2, q3⟩ := l16Packets_l0 b w g hn d (L ++ [⟨(L.length : Int) + 1, f, t, cl, l⟩]) i2 h2 (by simp; omega) c2 hL2
        rw [len_snoc] at e
        refine ⟨L', i', h', ?_, q1, q2, q3⟩
        refine Ev.suc ?_
        simp only [spec_l16Packets.l0, e1, Option.bind_some, hw, e2]
        exact Ev.ite_pos c (Ev.ite_pos (by omega) e)
    · refine ⟨L, i1, h1, ?_, by omega, hL, c1⟩
      refine Ev.suc ?_
      simp only [spec_l16Packets.l0, e1, Option.bind_some]
      exact Ev.ite_neg c (Ev.now _)

/-! ### sendAll_i -/
theorem copyLists_l0 : ∀ (rest pre : List (List S79)), pre.length + rest.length ≤ 1048576 → (∀ x ∈ rest, x.length ≤ 1048576) →
    Ev (fun k => impl_copyLists.l0 k pre (pre ++ rest) ((pre ++ rest).length : Int) (pre.length : Int)) (pre ++ rest)
  | [], pre, hl, hx => by
    refine Ev.suc ?_
    simp only [impl_copyLists.l0]
    exact Ev.ite_neg (by simp) (Ev.val (by simp))
  | x :: rest, pre, hl, hx => by
    simp only [List.length_cons] at hl
    have h1 : (pre.length : Int) < ((pre ++ x :: rest).length : Int) := by simp only [List.length_append, List.length_cons]; omega
    have hw : wrap64 ((pre.length : Int) + 1) = ((pre ++ [x]).length : Int) := by rw [w64 (by omega) (by omega), len_snoc]
    have ih := copyLists_l0 rest (pre ++ [x]) (by simp only [List.length_append, List.length_cons, List.length_nil]; omega) (fun y hy => hx y (List.mem_cons_of_mem _ hy))
    rw [← snoc_app pre x rest] at ih
    have hx0 := hx x List.mem_cons_self
    refine Ev.suc ?_
    simp only [impl_copyLists.l0, rdI_FlitSS, Option.bind_some, List.nil_append, List.length_nil, Nat.zero_add, hw]
    exact Ev.ite_pos h1 (Ev.ite_pos (by omega) (Ev.ite_pos h1 (Ev.ite_pos (by omega) (Ev.ite_pos (by omega) ih))))
theorem copyLists_i (l : List (List S79)) (hl : l.length ≤ 1048576) (hx : ∀ x ∈ l, x.length ≤ 1048576) : Ev (fun k => impl_copyLists.f k l) l := by
  unfold impl_copyLists.f
  exact copyLists_l0 l [] (by simpa using hl) hx
theorem rep_mem {n : Nat} {x : List S79} (h : x ∈ List.replicate n ([] : List S79)) : x.length ≤ 1048576 := by
  rw [List.eq_of_mem_replicate h]; exact Nat.zero_le _
theorem slen_set {α : Type} (y : List α) : ∀ (C : List (List α)) (i : Nat), i < C.length → slen (C.set i y) = slen C - ((C.getD i []).length : Int) + (y.length : Int)
  | [], i, h => by simp at h
  | x :: C, 0, h => by
    simp only [List.set_cons_zero, slen, List.getD_cons_zero]
    omega
  | x :: C, i + 1, h => by
    have ih := slen_set y C i (by simpa using h)
    simp only [List.set_cons_succ, slen, List.getD_cons_succ, ih]
    omega
theorem flB_flits (w h : Int) {i t c l : Int} (ht : nodeOk w h t) (hc : 0 ≤ c ∧ c ≤ 1) : flB w h ((List.range l.toNat).map (flitAt i t c l)) = true := by
  refine List.all_eq_true.2 (fun x hx => ?_)
  obtain ⟨j, _, rfl⟩ := List.mem_map.1 hx
  rw [Bool.and_eq_true]
  exact ⟨decide_eq_true ht, decide_eq_true hc⟩
def sumL : List S44 → Int
  | [] => 0
  | x :: l => x.f4 + sumL l
theorem send_i (w h : Int) (C : List (List S79)) {i f t c l : Int} (hp : pkOk w h i f t c l) (hC : (C.length : Int) = ncR w h) (hs : slen C ≤ 30) (hsrc : srcB w h C = true) :
    ∃ C', Ev (fun k => impl_Net_send.f k w h C i f t c l) (true, C') ∧ C'.length = C.length ∧ srcB w h C' = true ∧ slen C' = slen C + l := by
  obtain ⟨p1, p2, p3, p4, p5, p6⟩ := hp
  have hfl : flitsL w h i f t c l = (List.range l.toNat).map (flitAt i t c l) := if_pos ⟨p1, p2, p3, p4, p5, p6⟩
  have hlen : ((flitsL w h i f t c l).length : Int) = l := by rw [hfl, List.length_map, List.length_range]; omega
  have hB : flB w h (flitsL w h i f t c l) = true := by rw [hfl]; exact flB_flits w h p3 p5
  have hF := FlitsOf_i w h i f t c l
  generalize flitsL w h i f t c l = F at *
  have hlt : f.toNat < C.length := by omega
  have hmem : C.getD f.toNat [] ∈ C := by
    rw [List.getD_eq_getElem?_getD, List.getElem?_eq_getElem hlt, Option.getD_some]
    exact List.getElem_mem hlt
  have h30 := slen_mem C _ hmem
  have hold := List.all_eq_true.1 hsrc _ hmem
  simp only [Bool.and_eq_true, decide_eq_true_eq] at hold
  have hset := slen_set (C.getD f.toNat [] ++ F) C f.toNat hlt
  obtain ⟨E, hE⟩ : ∃ E, C.getD f.toNat [] = E := ⟨_, rfl⟩
  rw [hE] at h30 hold hset
  have hEF : E.length + F.length ≤ 60 := by
    clear hset hB hF hmem hE hold hsrc
    omega
  have g : ¬ (F.length : Int) = 0 ∧ f < (C.length : Int) ∧ E.length + F.length < 4294967296 ∧ ¬ 60 < (E.length : Int) + (F.length : Int) ∧ wrap64 ((E.length : Int) + (F.length : Int)) = (E.length : Int) + (F.length : Int) := by
    clear hset hB hF hmem hE hold hsrc hs h30 hfl
    refine ⟨by omega, by omega, by omega, by omega, w64 (by omega) (by omega)⟩
  obtain ⟨g1, g2, g3, g4, hw⟩ := g
  refine ⟨C.set f.toNat (E ++ F), ?_, List.length_set, ?_, ?_⟩
  · unfold impl_Net_send.f
    refine Ev.bind hF ?_
    rw [hE, hw]
    exact Ev.ite_neg g1 (Ev.ite_pos p2.1 (Ev.ite_pos g2 (Ev.ite_pos g3 (Ev.ite_neg g4 (Ev.now _)))))
  · refine List.all_eq_true.2 (fun x hx => ?_)
    rcases List.mem_or_eq_of_mem_set hx with hx | rfl
    · exact List.all_eq_true.1 hsrc x hx
    · simp only [Bool.and_eq_true, decide_eq_true_eq]
      refine ⟨Nat.le_trans (Nat.le_of_eq List.length_append) hEF, ?_⟩
      have h1 := hold.2
      unfold flB at h1 hB ⊢
      rw [List.all_append, h1, hB]
      rfl
  · rw [hset, List.length_append]
    omega
theorem SendAll_l0 (w h : Int) : ∀ (rest pre : List S44) (C : List (List S79)), pre.length + rest.length ≤ 6 → (∀ x ∈ rest, pkOk w h x.f0 x.f1 x.f2 x.f3 x.f4) → (C.length : Int) = ncR w h → slen C ≤ 5 * (pre.length : Int) → srcB w h C = true →
    ∃ C', Ev (fun k => impl_SendAll.l0 k w h C (pre ++ rest) (pre.length : Int) (pre.length : Int)) (((pre ++ rest).length : Int), C') ∧ C'.length = C.length ∧ srcB w h C' = true ∧ slen C' = slen C + sumL rest ∧ slen C' ≤ 30
  | [], pre, C, hl, hp, hC, hs, hsrc => by
    refine ⟨C, ?_, rfl, hsrc, by simp [sumL], by simp at hl; omega⟩
    refine Ev.suc ?_
    simp only [impl_SendAll.l0]
    exact Ev.ite_neg (by simp) (Ev.val (by simp))
  | x :: rest, pre, C, hl, hp, hC, hs, hsrc => by
    simp only [List.length_cons] at hl
    have h1 : (pre.length : Int) < ((pre ++ x :: rest).length : Int) := by simp only [List.length_append, List.length_cons]; omega
    have hw : wrap64 ((pre.length : Int) + 1) = ((pre ++ [x]).length : Int) := by rw [w64 (by omega) (by omega), len_snoc]
    have hx := hp x List.mem_cons_self
    obtain ⟨C1, e1, q1, q2, q3⟩ := send_i w h C hx hC (by omega) hsrc
    have h5 := hx.2.2.2.2.2
    obtain ⟨C', e2, r1, r2, r3, r4⟩ := SendAll_l0 w h rest (pre ++ [x]) C1 (by simp only [List.length_append, List.length_cons, List.length_nil]; omega) (fun y hy => hp y (List.mem_cons_of_mem _ hy)) (by rw [q1]; exact hC) (by rw [len_snoc]; omega) q2
    rw [← snoc_app pre x rest] at e2
    refine ⟨C', ?_, by rw [r1, q1], r2, by rw [r3, q3]; simp only [sumL]; omega, r4⟩
    refine Ev.suc ?_
    simp only [impl_SendAll.l0, rdI_Packet, hw]
    exact Ev.ite_pos h1 (Ev.ite_pos (by omega) (Ev.bind e1 e2))

theorem FnSends_l0 (w h : Int) (A B : List Int) (Bu : List (List S79)) (O T : List Int) (C Ar : List (List S79)) (cnt S : Int) (L : List S44) (hE : Ev (fun k => laws_FnSends.l0 k L true cnt S (L.length : Int) w h [] A B Bu O T C Ar 0) true) :
    ∀ (rest pre : List S44) (s : Int), pre ++ rest = L → pre.length + rest.length ≤ 6 → (∀ x ∈ rest, 1 ≤ x.f4 ∧ x.f4 ≤ 5) → 0 ≤ s → s ≤ 5 * (pre.length : Int) → s + sumL rest = S → Ev (fun k => laws_FnSends.l0 k L true cnt s (pre.length : Int) w h [] A B Bu O T C Ar 0) true
  | [], pre, s, hL, hl, hx, h0, hs, hS => by
    simp only [List.append_nil] at hL
    simp only [sumL, Int.add_zero] at hS
    subst hL hS
    exact hE
  | x :: rest, pre, s, hL, hl, hx, h0, hs, hS => by
    simp only [List.length_cons] at hl
    simp only [sumL] at hS
    have h5 := hx x List.mem_cons_self
    have h1 : (pre.length : Int) < (L.length : Int) := by rw [← hL]; simp only [List.length_append, List.length_cons]; omega
    have hw : wrap64 ((pre.length : Int) + 1) = ((pre ++ [x]).length : Int) := by rw [w64 (by omega) (by omega), len_snoc]
    have hr : rd_T44 L (pre.length : Int) = x := by rw [← hL]; exact rdI_Packet pre x rest
    have hs2 : wrap64 (s + x.f4) = s + x.f4 := w64 (by omega) (by omega)
    have ih := FnSends_l0 w h A B Bu O T C Ar cnt S L hE rest (pre ++ [x]) (s + x.f4) (by rw [← hL, ← snoc_app]) (by simp only [List.length_append, List.length_cons, List.length_nil]; omega) (fun y hy => hx y (List.mem_cons_of_mem _ hy)) (by omega) (by rw [len_snoc]; omega) (by omega)
    refine Ev.suc ?_
    simp only [laws_FnSends.l0, hr, hw, hs2]
    exact Ev.ite_pos h1 (Ev.ite_pos (by omega) ih)
theorem FnSends : FnSends_says := by
  intro b hl
  refine Ev.rounds ?_
  unfold laws_FnSends.f
  simp only [big_f, Option.bind_some]
  refine Ev.ite (fun _ => Ev.now _) (fun hbig => ?_)
  simp only [decide_eq_true_eq] at hbig
  obtain ⟨h0, e0⟩ := l01New_f b (by omega)
  obtain ⟨w, h, i1, h1, e1, hn2, hc1⟩ := l14Grid_f b 0 h0 (l01New_ok b (by omega))
  have hg : gOk w h := Classical.byContradiction fun z => by
    have : ncR w h = 0 := if_neg z
    omega
  obtain ⟨x, i2, h2, e2, x0, x1, _, hc2⟩ := l01Below_f b i1 h1 4 hc1
  obtain ⟨y, i3, h3, e3, y0, y1, _, hc3⟩ := l01Below_f b i2 h2 4 hc2
  have x1 := x1 (by omega)
  have y1 := y1 (by omega)
  have wx : wrap64 (1 + x) = 1 + x := w64 (by omega) (by omega)
  have wy : wrap64 (1 + y) = 1 + y := w64 (by omega) (by omega)
  obtain ⟨L, i4, h4, e4, l6, hL, _⟩ := l16Packets_l0 b w h hn2 6 [] i3 h3 rfl hc3 ⟨rfl, fun x hx => by cases hx⟩
  have hd : Ev (fun k => spec_DrawTraffic.f k b) (w, h, [], stdT w h (1 + x), stdT w h (1 + y), L) := by
    unfold spec_DrawTraffic.f
    refine Ev.bind e0 ?_
    simp only [e1, e2, e3, wx, wy, Option.bind_some]
    refine Ev.bind (l05Make_s w h (1 + x) hg) ?_
    refine Ev.bind (l05Make_s w h (1 + y) hg) ?_
    unfold spec_l16Packets.f
    exact Ev.bind e4 (Ev.now _)
  have tA := stdTab w h (1 + x) hg (by omega)
  have tB := stdTab w h (1 + y) hg (by omega)
  have lA := stdT_len w h (1 + x)
  have lB := stdT_len w h (1 + y)
  generalize stdT w h (1 + x) = A at *
  generalize stdT w h (1 + y) = B at *
  have hnb := ncR_b w h
  obtain ⟨n, hn⟩ : ∃ n : Nat, (n : Int) = ncR w h := ⟨(ncR w h).toNat, by omega⟩
  have hnew := NetNew_i (by omega) (by omega) tA tB hn
  have hsrc0 : srcB w h (List.replicate n []) = true := by
    refine List.all_eq_true.2 (fun x hx => ?_)
    rw [List.eq_of_mem_replicate hx]
    rfl
  have hs0 : slen (List.replicate n ([] : List S79)) = 0 := slen_rep n
  have ok0 := NetOk_new tA tB hn (List.replicate n []) List.length_replicate (by omega) hsrc0
  obtain ⟨C, eC, cl, cs, cn, c30⟩ := SendAll_l0 w h L [] (List.replicate n []) (by simpa using l6) hL.2 (by rw [List.length_replicate]; exact hn) (by simp [hs0]) hsrc0
  rw [List.length_replicate] at cl
  rw [hs0, Int.zero_add] at cn
  have hcopy : Ev (fun k => impl_copyNet.f k w h [] A B (List.replicate (10 * n) []) (List.replicate (10 * n) (-1)) (List.replicate (5 * n) 0) (List.replicate n []) (List.replicate n []) 0) (w, h, [], A, B, List.replicate (10 * n) [], List.replicate (10 * n) (-1), List.replicate (5 * n) 0, List.replicate n [], List.replicate n [], 0) := by
    unfold impl_copyNet.f
    simp only [copyMesh_0, copyClasses_2 (show A.length ≤ 1048576 by omega) (show B.length ≤ 1048576 by omega), Option.bind_some, List.length_nil, List.nil_append, Nat.zero_add]
    have cn1 := copyLists_i (List.replicate n []) (by rw [List.length_replicate]; omega) (fun x hx => rep_mem hx)
    exact Ev.bind (copyLists_i _ (by rw [List.length_replicate]; omega) (fun x hx => rep_mem hx)) (Ev.ite_pos (by rw [List.length_replicate]; omega) (Ev.ite_pos (by rw [List.length_replicate]; omega) (Ev.bind cn1 (Ev.bind cn1 (Ev.now _)))))
  have hsend : Ev (fun k => impl_SendAll.f k w h [] A B (List.replicate (10 * n) []) (List.replicate (10 * n) (-1)) (List.replicate (5 * n) 0) (List.replicate n []) (List.replicate n []) 0 L) (w, h, [], A, B, List.replicate (10 * n) [], List.replicate (10 * n) (-1), List.replicate (5 * n) 0, C, List.replicate n [], 0, (L.length : Int)) := by
    unfold impl_SendAll.f
    exact Ev.bind hcopy (Ev.bind ok0 (Ev.ite_pos rfl (Ev.ite_neg (by omega) (Ev.bind eC (Ev.now _)))))
  have ok1 := NetOk_new tA tB hn C cl (by omega) cs
  have fi : Ev (fun k => impl_FlitsInside.f k w h [] A B (List.replicate (10 * n) []) (List.replicate (10 * n) (-1)) (List.replicate (5 * n) 0) C (List.replicate n []) 0) 0 := by
    unfold impl_FlitsInside.f
    have sB : slen (List.replicate (10 * n) ([] : List S79)) = 0 := slen_rep _
    have z := flitsIn_i (List.replicate (10 * n) ([] : List S79)) ⟨by simp; omega, by omega⟩
    rw [sB] at z
    exact Ev.bind ok1 (Ev.ite_pos rfl (Ev.bind z (Ev.now _)))
  have fw : Ev (fun k => impl_FlitsWaiting.f k w h [] A B (List.replicate (10 * n) []) (List.replicate (10 * n) (-1)) (List.replicate (5 * n) 0) C (List.replicate n []) 0) (sumL L) := by
    unfold impl_FlitsWaiting.f
    have z := flitsIn_i C ⟨by omega, by omega⟩
    rw [cn] at z
    exact Ev.bind ok1 (Ev.ite_pos rfl (Ev.bind z (Ev.now _)))
  have ids : Ev (fun k => impl_IdsDistinct.f k L) true := by
    refine Ev.eq (IdsDistinct_i L (by omega)) ?_
    have z := nbL_dbl L [] 0 (fun y hy => by cases hy)
    rw [hL.1] at z
    exact z
  have nums : Ev (fun k => impl_NumberPackets.f k L) L := Ev.eq (NumberPackets_i L (by omega)) hL.1
  refine Ev.bind hd (Ev.bind hnew (Ev.bind hsend ?_))
  refine FnSends_l0 w h A B _ _ _ C _ (L.length : Int) (sumL L) L ?_ L [] 0 rfl (by simpa using l6) (fun x hx => (hL.2 x hx).2.2.2.2.2) (by omega) (by simp) (by omega)
  refine Ev.suc ?_
  simp only [laws_FnSends.l0]
  exact Ev.ite_neg (by omega) (Ev.ite_pos trivial (Ev.ite_pos trivial (Ev.bind ok1 (Ev.ite_pos rfl (Ev.bind fw (Ev.ite_pos rfl (Ev.bind fi (Ev.ite_pos rfl (Ev.bind ids (Ev.ite_pos rfl (Ev.bind nums (Ev.bind ids (Ev.now _))))))))))))) 

end Go.Proofs.Ytchhgfgebomegaa.Pure
