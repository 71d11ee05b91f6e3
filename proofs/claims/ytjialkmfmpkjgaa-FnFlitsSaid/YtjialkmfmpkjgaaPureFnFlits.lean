/- The plain statement of the law FnFlits: the flits of a drawn packet are whole, and no shorter part of them is. No condition. -/
import Derived.Test.YtjialkmfmpkjgaaPFnFlitsx
import Derived.Test.YtjialkmfmpkjgaaU
import Derived.Test.YtjialkmfmpkjgaaSaysFnFlits
namespace Go.Proofs.Ytjialkmfmpkjgaa.Pure
open Go.RowKit Go.Proofs.Ytjialkmfmpkjgaa.PFnFlits Go.Proofs.YtjialkmfmpkjgaaW.PrintWords Go.Proofs.YtjialkmfmpkjgaaW.PrintLast Go.Proofs.YtjialkmfmpkjgaaW.PrintMore Go.Proofs.Ytjialkmfmpkjgaa.U
set_option linter.unusedVariables false
set_option linter.unusedSimpArgs false

/-! ### big -/
theorem big_f (b : List Int) : laws_big.f b = some (decide ((b.length : Int) > 1048576)) := rfl

/-! ### cur -/
def CurOk (b : List Int) (i : Int) : Prop := 0 ≤ i ∧ i ≤ (b.length : Int) ∧ b.length ≤ 140737488351232
theorem l01New_l0 (b : List Int) (hb : b.length ≤ 140737488351232) : ∀ (d : Nat) (i h : Int), 0 ≤ i → i ≤ (b.length : Int) → (b.length : Int) - i = d → ∃ h', Ev (fun k => spec_l01New.l0 k b h i) (b, 0, h')
  | 0, i, h, h0, h1, hd => ⟨h, by
    refine Ev.suc ?_
    simp only [spec_l01New.l0]
    exact Ev.ite_neg (by omega) (Ev.now _)⟩
  | d + 1, i, h, h0, h1, hd => by
    by_cases h4 : i < 4000
    · obtain ⟨h', hh⟩ := l01New_l0 b hb d (i + 1) (Go.bits .and .i64 (wrap64 ((wrap64 ((wrap64 (h * 131)) + (wrap64 (rd b i)))) + 7)) 1073741823) (by omega) (by omega) (by omega)
      refine ⟨h', ?_⟩
      refine Ev.suc ?_
      simp only [spec_l01New.l0]
      refine Ev.ite_pos (by omega) (Ev.ite_pos h4 (Ev.ite_pos h0 ?_))
      rw [w64 (x := i + 1) (by omega) (by omega)]
      exact hh
    · refine ⟨h, ?_⟩
      refine Ev.suc ?_
      simp only [spec_l01New.l0]
      exact Ev.ite_pos (by omega) (Ev.ite_neg h4 (Ev.now _))
theorem l01New_f (b : List Int) (hb : b.length ≤ 140737488351232) : ∃ h', Ev (fun k => spec_l01New.f k b) (b, 0, h') := l01New_l0 b hb b.length 0 _ (by omega) (by omega) (by omega)
theorem l01New_ok (b : List Int) (hb : b.length ≤ 140737488351232) : CurOk b 0 := ⟨by omega, by omega, hb⟩
theorem l01Byte_f (b : List Int) (i h : Int) (hc : CurOk b i) : ∃ r i' h', spec_l01Byte.f b i h = some (r, i', h') ∧ 0 ≤ r ∧ r ≤ 255 ∧ CurOk b i' := by
  obtain ⟨h0, h1, h2⟩ := hc
  unfold spec_l01Byte.f
  by_cases hl : i < (b.length : Int)
  · rw [if_pos hl, if_pos h0]
    refine ⟨_, _, _, rfl, (and255 _).1, (and255 _).2, ?_⟩
    rw [w64 (by omega) (by omega)]
    exact ⟨by omega, by omega, h2⟩
  · rw [if_neg hl]
    exact ⟨_, _, _, rfl, (and255 _).1, (and255 _).2, h0, h1, h2⟩
theorem l01Below_f (b : List Int) (i h n : Int) (hc : CurOk b i) : ∃ r i' h', spec_l01Below.f b i h n = some (r, i', h') ∧ 0 ≤ r ∧ (0 < n → r < n) ∧ (n ≤ 0 → r = 0) ∧ CurOk b i' := by
  unfold spec_l01Below.f
  by_cases hn : n ≤ 0
  · rw [if_pos hn]
    exact ⟨0, i, h, rfl, by omega, by omega, fun _ => rfl, hc⟩
  · rw [if_neg hn]
    have tm : ∀ x : Int, 0 ≤ x → 0 ≤ Int.tmod x n ∧ Int.tmod x n < n := fun x hx => by
      rw [Int.tmod_eq_emod_of_nonneg hx]
      exact ⟨Int.emod_nonneg _ (by omega), Int.emod_lt_of_pos _ (by omega)⟩
    by_cases h2 : n ≤ 256
    · obtain ⟨r, i', h', e, r0, r1, hc'⟩ := l01Byte_f b i h hc
      rw [if_pos h2, e]
      simp only [Option.bind_some]
      rw [if_neg (by omega)]
      exact ⟨_, _, _, rfl, (tm r r0).1, fun _ => (tm r r0).2, fun h => absurd h hn, hc'⟩
    · rw [if_neg h2]
      obtain ⟨x, i1, h1, e1, x0, x1, hc1⟩ := l01Byte_f b i h hc
      obtain ⟨y, i2, h2', e2, y0, y1, hc2⟩ := l01Byte_f b i1 h1 hc1
      obtain ⟨z, i3, h3, e3, z0, z1, hc3⟩ := l01Byte_f b i2 h2' hc2
      obtain ⟨w, i4, h4, e4, w0, w1, hc4⟩ := l01Byte_f b i3 h3 hc3
      simp only [e1, e2, e3, e4, Option.bind_some]
      rw [if_neg (by omega)]
      have hs : wrap64 ((wrap64 ((wrap64 ((wrap64 (x * 16777216)) + (wrap64 (y * 65536)))) + (wrap64 (z * 256)))) + w) = x * 16777216 + y * 65536 + z * 256 + w := by
        rw [w64 (x := x * 16777216) (by omega) (by omega), w64 (x := y * 65536) (by omega) (by omega), w64 (x := z * 256) (by omega) (by omega)]
        rw [w64 (x := x * 16777216 + y * 65536) (by omega) (by omega)]
        rw [w64 (x := x * 16777216 + y * 65536 + z * 256) (by omega) (by omega)]
        exact w64 (by omega) (by omega)
      rw [hs]
      exact ⟨_, _, _, rfl, (tm _ (by omega)).1, fun _ => (tm _ (by omega)).2, fun h => absurd h hn, hc4⟩

/-! ### DrawPlaces -/
theorem DrawPlaces_l0 (b : List Int) : ∀ (d : Nat) (l : List Int) (i p h : Int), CurOk b p → (l.length : Int) = i → (12 : Int) - i = d → (∀ x ∈ l, 0 ≤ x ∧ x ≤ 9999) →
    ∃ ps, Ev (fun k => spec_DrawPlaces.l0 k l i b p h) ps ∧ ps.length = 12 ∧ ∀ x ∈ ps, 0 ≤ x ∧ x ≤ 9999
  | 0, l, i, p, h, hc, hl, hd, hx => ⟨l, by
    refine Ev.suc ?_
    simp only [spec_DrawPlaces.l0]
    exact Ev.ite_neg (by omega) (Ev.now _), by omega, hx⟩
  | d + 1, l, i, p, h, hc, hl, hd, hx => by
    obtain ⟨r, p', h', e, r0, r1, _, hc'⟩ := l01Below_f b p h 10000 hc
    obtain ⟨ps, hp, hp2⟩ := DrawPlaces_l0 b d (l ++ [r]) (i + 1) p' h' hc' (by simp; omega) (by omega) (fun x hm => by
      rcases List.mem_append.1 hm with hm | hm
      · exact hx x hm
      · rw [List.mem_singleton.1 hm]
        have := r1 (by omega)
        omega)
    refine ⟨ps, ?_, hp2⟩
    refine Ev.suc ?_
    simp only [spec_DrawPlaces.l0, e, Option.bind_some]
    refine Ev.ite_pos (by omega) (Ev.ite_pos (by omega) ?_)
    rw [w64 (by omega) (by omega)]
    exact hp
theorem DrawPlaces_f (b : List Int) (hb : b.length ≤ 140737488351232) : ∃ ps, Ev (fun k => spec_DrawPlaces.f k b) ps ∧ ps.length = 12 ∧ ∀ i, 0 ≤ i → i < 12 → 0 ≤ rd ps i ∧ rd ps i ≤ 9999 := by
  obtain ⟨h', hn⟩ := l01New_f b hb
  obtain ⟨ps, hp, hl, hx⟩ := DrawPlaces_l0 b 12 [] 0 0 h' (l01New_ok b hb) (by simp) (by omega) (fun x hx => by cases hx)
  refine ⟨ps, ?_, hl, fun i h0 h1 => hx _ ?_⟩
  · unfold spec_DrawPlaces.f
    exact Ev.bind hn hp
  · unfold rd
    rw [List.getD_eq_getElem?_getD, List.getElem?_eq_getElem (by omega)]
    exact List.getElem_mem _

/-! ### grid -/
abbrev gOk (w h : Int) : Prop := 1 ≤ w ∧ w ≤ 4 ∧ 1 ≤ h ∧ h ≤ 4
def ncR (w h : Int) : Int := if gOk w h then w * h else 0
theorem mul_b {w h : Int} (hw : 1 ≤ w ∧ w ≤ 4) (hh : 1 ≤ h ∧ h ≤ 4) : 1 ≤ w * h ∧ w * h ≤ 16 := by
  obtain h1 | h1 | h1 | h1 : w = 1 ∨ w = 2 ∨ w = 3 ∨ w = 4 := by omega
  all_goals
    subst h1
    omega
theorem ncR_b (w h : Int) : 0 ≤ ncR w h ∧ ncR w h ≤ 16 := by
  unfold ncR
  split
  · rename_i hg
    have := mul_b ⟨hg.1, hg.2.1⟩ hg.2.2
    omega
  · omega
abbrev nodeOk (w h n : Int) : Prop := 0 ≤ n ∧ n ≤ ncR w h - 1

/-! ### in -/
theorem l01In_f (a b c : Int) : spec_l01In.f a b c = some (decide (b ≤ a ∧ a ≤ c)) := by
  unfold spec_l01In.f
  by_cases h : a ≥ b
  · rw [if_pos h]
    simp [show b ≤ a from h]
  · rw [if_neg h]
    simp [show ¬ b ≤ a from h]

/-! ### grid_s -/
theorem GridOk_s (w h : Int) : spec_GridOk.f w h = some (decide (gOk w h)) := by
  unfold spec_GridOk.f gOk
  simp only [l01In_f, Option.bind_some, decide_eq_true_eq]
  split
  · rename_i h1
    simp [h1]
  · rename_i h1
    simp only [Option.some.injEq]
    symm
    rw [decide_eq_false_iff_not]
    exact fun h2 => h1 ⟨h2.1, h2.2.1⟩
theorem NodeCount_s (w h : Int) : spec_NodeCount.f w h = some (ncR w h) := by
  unfold spec_NodeCount.f ncR
  simp only [GridOk_s, Option.bind_some, decide_eq_true_eq]
  split
  · rename_i hg
    have := mul_b ⟨hg.1, hg.2.1⟩ hg.2.2
    rw [w64 (by omega) (by omega)]
  · rfl

/-! ### pk -/
abbrev pkOk (w h i f t c l : Int) : Prop := (1 ≤ i ∧ i ≤ 9999) ∧ nodeOk w h f ∧ nodeOk w h t ∧ f ≠ t ∧ (0 ≤ c ∧ c ≤ 1) ∧ (1 ≤ l ∧ l ≤ 5)

/-! ### drawPacket -/
theorem pick6_f (b : List Int) (i h : Int) (hc : CurOk b i) : ∃ v i' h', spec_l01PickInt.f b i h [1, 2, 2, 3, 3, 4] = some (v, i', h') ∧ (1 ≤ v ∧ v ≤ 4) ∧ CurOk b i' := by
  obtain ⟨r, i', h', e, r0, r1, _, hc'⟩ := l01Below_f b i h 6 hc
  have r2 := r1 (by omega)
  refine ⟨rd [1, 2, 2, 3, 3, 4] r, i', h', ?_, ?_, hc'⟩
  · unfold spec_l01PickInt.f
    have e6 : (([1, 2, 2, 3, 3, 4] : List Int).length : Int) = 6 := rfl
    rw [e6, e, Option.bind_some, if_pos r0, if_pos r2]
  · have : r = 0 ∨ r = 1 ∨ r = 2 ∨ r = 3 ∨ r = 4 ∨ r = 5 := by omega
    rcases this with rfl | rfl | rfl | rfl | rfl | rfl <;> decide
theorem l02Grid_f (b : List Int) (i h : Int) (hc : CurOk b i) : ∃ w g i' h', spec_l02Grid.f b i h = some (w, g, i', h') ∧ gOk w g ∧ CurOk b i' := by
  obtain ⟨w, i1, h1, e1, w1, c1⟩ := pick6_f b i h hc
  obtain ⟨g, i2, h2, e2, g1, c2⟩ := pick6_f b i1 h1 c1
  refine ⟨w, g, i2, h2, ?_, ⟨w1.1, w1.2, g1.1, g1.2⟩, c2⟩
  unfold spec_l02Grid.f
  rw [e1, Option.bind_some, e2, Option.bind_some]
theorem l14Grid_f (b : List Int) (i h : Int) (hc : CurOk b i) : ∃ w g i' h', spec_l14Grid.f b i h = some (w, g, i', h') ∧ 2 ≤ ncR w g ∧ CurOk b i' := by
  obtain ⟨w, g, i1, h1, e1, k, c1⟩ := l02Grid_f b i h hc
  unfold spec_l14Grid.f
  rw [e1, Option.bind_some]
  simp only [NodeCount_s, Option.bind_some]
  by_cases c : ncR w g < 2
  · refine ⟨2, g, i1, h1, if_pos c, ?_, c1⟩
    have : ncR 2 g = 2 * g := if_pos ⟨by omega, by omega, k.2.2.1, k.2.2.2⟩
    omega
  · exact ⟨w, g, i1, h1, if_neg c, by omega, c1⟩
theorem next_mod (n a r : Int) (ha : 0 ≤ a ∧ a < n) (hr : 0 ≤ r ∧ r < n - 1) : 0 ≤ (a + 1 + r) % n ∧ (a + 1 + r) % n ≤ n - 1 ∧ a ≠ (a + 1 + r) % n := by
  by_cases c : a + 1 + r < n
  · rw [Int.emod_eq_of_lt (by omega) c]
    omega
  · have e : (a + 1 + r) % n = a + 1 + r - n := by
      rw [← Int.sub_emod_right]
      exact Int.emod_eq_of_lt (by omega) (by omega)
    rw [e]
    omega
theorem l14Packet_f (b : List Int) (i h w g d : Int) (hc : CurOk b i) (hn : 2 ≤ ncR w g) (hd : 1 ≤ d ∧ d ≤ 9999) : ∃ f t c l i' h', spec_l14Packet.f b i h w g d = some (d, f, t, c, l, i', h') ∧ pkOk w g d f t c l ∧ CurOk b i' := by
  have hb := ncR_b w g
  obtain ⟨a, i1, h1, e1, a0, a1, _, c1⟩ := l01Below_f b i h (ncR w g) hc
  obtain ⟨r, i2, h2, e2, r0, r1, _, c2⟩ := l01Below_f b i1 h1 (ncR w g - 1) c1
  obtain ⟨c, i3, h3, e3, q0, q1, _, c3⟩ := l01Below_f b i2 h2 2 c2
  obtain ⟨l, i4, h4, e4, l0, l1, _, c4⟩ := l01Below_f b i3 h3 5 c3
  have a2 := a1 (by omega)
  have r2 := r1 (by omega)
  have q2 := q1 (by omega)
  have l2 := l1 (by omega)
  have m := next_mod (ncR w g) a r ⟨a0, a2⟩ ⟨r0, r2⟩
  have w1 : wrap64 (ncR w g - 1) = ncR w g - 1 := w64 (by omega) (by omega)
  have w2 : wrap64 (a + 1) = a + 1 := w64 (by omega) (by omega)
  have w3 : wrap64 (a + 1 + r) = a + 1 + r := w64 (by omega) (by omega)
  have w4 : wrap64 (1 + l) = 1 + l := w64 (by omega) (by omega)
  have t1 : Int.tmod (a + 1 + r) (ncR w g) = (a + 1 + r) % ncR w g := Int.tmod_eq_emod_of_nonneg (by omega)
  have nz : ¬ ncR w g = 0 := by omega
  refine ⟨a, (a + 1 + r) % ncR w g, c, 1 + l, i4, h4, ?_, ⟨hd, ⟨a0, by omega⟩, ⟨m.1, m.2.1⟩, m.2.2, ⟨q0, by omega⟩, ⟨by omega, by omega⟩⟩, c4⟩
  unfold spec_l14Packet.f
  simp only [NodeCount_s, Option.bind_some, e1, w1, e2, if_neg nz, e3, e4, w2, w3, t1, w4]

/-! ### FlitsOf -/
def flitAt (i t c l : Int) (j : Nat) : S48 := ⟨i, t, c, ((j : Int) == 0), ((j : Int) == l - 1)⟩
def flitsL (w h i f t c l : Int) : List S48 := if pkOk w h i f t c l then (List.range l.toNat).map (flitAt i t c l) else []
theorem flitsL_len (w h i f t c l : Int) : (flitsL w h i f t c l).length ≤ 5 := by
  unfold flitsL
  split
  · rename_i hp
    rw [List.length_map, List.length_range]
    have := hp.2.2.2.2.2
    omega
  · simp

/-! ### inside -/
theorem inside_f (a b c : Int) : impl_inside.f a b c = some (decide (b ≤ a ∧ a ≤ c)) := by
  unfold impl_inside.f
  by_cases h : b ≤ a
  · rw [if_pos h]
    simp [h]
  · rw [if_neg h]
    simp [h]

/-! ### grid_i -/
theorem GridOk_i (w h : Int) : impl_GridOk.f w h = some (decide (gOk w h)) := by
  unfold impl_GridOk.f gOk
  simp only [inside_f, Option.bind_some, decide_eq_true_eq]
  split
  · rename_i h1
    simp [h1]
  · rename_i h1
    simp only [Option.some.injEq]
    symm
    rw [decide_eq_false_iff_not]
    exact fun h2 => h1 ⟨h2.1, h2.2.1⟩
theorem NodeCount_i (w h : Int) : impl_NodeCount.f w h = some (ncR w h) := by
  unfold impl_NodeCount.f ncR
  simp only [GridOk_i, Option.bind_some, decide_eq_true_eq]
  split
  · rename_i hg
    have := mul_b ⟨hg.1, hg.2.1⟩ hg.2.2
    rw [w64 (by omega) (by omega)]
  · rfl

/-! ### isNode -/
theorem isNode_i (w h n : Int) : impl_isNode.f w h n = some (decide (nodeOk w h n)) := by
  unfold impl_isNode.f nodeOk
  have := ncR_b w h
  simp only [NodeCount_i, inside_f, Option.bind_some]
  rw [w64 (by omega) (by omega)]

/-! ### PacketOk_i -/
theorem PacketOk_i (w h i f t c l : Int) : impl_PacketOk.f w h i f t c l = some (decide (pkOk w h i f t c l)) := by
  unfold impl_PacketOk.f pkOk
  simp only [inside_f, isNode_i, Option.bind_some, decide_eq_true_eq]
  by_cases h1 : 1 ≤ i ∧ i ≤ 9999
  case neg => simp [h1]
  by_cases h2 : nodeOk w h f
  case neg => simp [h2]
  by_cases h3 : nodeOk w h t
  case neg => simp [h3]
  by_cases h4 : f = t
  case pos => simp [h4]
  by_cases h5 : 0 ≤ c ∧ c ≤ 1
  case neg => simp [h5]
  rw [if_pos h1, if_pos h2, if_pos h3, if_neg h4, if_pos h5]
  congr 1
  rw [decide_eq_decide]
  exact ⟨fun h => ⟨h1, h2, h3, h4, h5, h⟩, fun h => h.2.2.2.2.2⟩

/-! ### FlitsOf_i -/
theorem FlitsOf_i_l0 (i f t c l : Int) (hl : 1 ≤ l ∧ l ≤ 5) : ∀ (d j : Nat), (j : Int) + d = l →
    Ev (fun k => impl_FlitsOf.l0 k ((List.range j).map (flitAt i t c l)) l (j : Int) i f t c l) ((List.range l.toNat).map (flitAt i t c l))
  | 0, j, h => by
    refine Ev.suc ?_
    simp only [impl_FlitsOf.l0]
    refine Ev.ite_neg (by omega) (Ev.val ?_)
    have : j = l.toNat := by omega
    rw [this]
  | d + 1, j, h => by
    have ih := FlitsOf_i_l0 i f t c l hl d (j + 1) (by omega)
    have hw : wrap64 ((j : Int) + 1) = ((j + 1 : Nat) : Int) := by rw [w64 (by omega) (by omega)]; omega
    have hv : wrap64 (l - 1) = l - 1 := w64 (by omega) (by omega)
    have hs : (List.range j).map (flitAt i t c l) ++ [(⟨i, t, c, ((j : Int) == 0), ((j : Int) == l - 1)⟩ : S48)] = (List.range (j + 1)).map (flitAt i t c l) := by
      rw [List.range_succ, List.map_append]
      rfl
    refine Ev.suc ?_
    simp only [impl_FlitsOf.l0, hw, hv, hs]
    exact Ev.ite_pos (by omega) (Ev.ite_pos (by simp; omega) ih)
theorem FlitsOf_i (w h i f t c l : Int) : Ev (fun k => impl_FlitsOf.f k w h i f t c l) (flitsL w h i f t c l) := by
  unfold impl_FlitsOf.f flitsL
  refine Ev.bindS rfl (Ev.bindS (PacketOk_i w h i f t c l) ?_)
  simp only [decide_eq_true_eq]
  refine Ev.ite (fun hp => ?_) (fun hp => Ev.val ?_)
  · rw [if_pos hp]
    have hl := hp.2.2.2.2.2
    exact FlitsOf_i_l0 i f t c l hl l.toNat 0 (by omega)
  · rw [if_neg hp]

/-! ### rdFlit -/
theorem rdI_Flit (pre : List S48) (x : S48) (rest : List S48) : rd_T48 (pre ++ x :: rest) (pre.length : Int) = x := getD_mid pre x rest _

/-! ### wholeB -/
def wOne (h : S48) (n i : Int) (x : S48) : Prop := x.f0 = h.f0 ∧ x.f1 = h.f1 ∧ x.f2 = h.f2 ∧ x.f3 = (i == 0) ∧ x.f4 = (i == n - 1)
instance (h : S48) (n i : Int) (x : S48) : Decidable (wOne h n i x) := by
  unfold wOne
  infer_instance
def wR (h : S48) (n : Int) : Int → List S48 → Bool
  | _, [] => true
  | i, x :: r => decide (wOne h n i x) && wR h n (i + 1) r
def wholeB : List S48 → Bool
  | [] => false
  | h :: t => wR h ((h :: t).length : Int) 0 (h :: t)
theorem rd_head (h : S48) (t : List S48) : rd_T48 (h :: t) 0 = h := rfl
theorem wR_id (h : S48) (n : Int) : ∀ (l : List S48) (i : Int), wR h n i l = true → ∀ x ∈ l, x.f0 = h.f0
  | [], _, _, x, hx => by cases hx
  | y :: l, i, hw, x, hx => by
    unfold wR at hw
    rw [Bool.and_eq_true, decide_eq_true_eq] at hw
    rcases List.mem_cons.1 hx with rfl | hx
    · exact hw.1.1
    · exact wR_id h n l (i + 1) hw.2 x hx

/-! ### IsWhole_i -/
theorem IsWhole_i_l0 (h : S48) (t : List S48) (hn : (h :: t).length ≤ 1152921504606846976) : ∀ (rest pre : List S48), pre ++ rest = h :: t →
    Ev (fun k => impl_IsWhole.l0 k (h :: t) (pre.length : Int)) (wR h ((h :: t).length : Int) (pre.length : Int) rest)
  | [], pre, e => by
    have hl : pre.length = (h :: t).length := by rw [← e]; simp
    refine Ev.suc ?_
    simp only [impl_IsWhole.l0]
    exact Ev.ite_neg (by omega) (Ev.val (by simp [wR]))
  | x :: rest, pre, e => by
    have hl : pre.length + (rest.length + 1) = (h :: t).length := by rw [← e]; simp
    have hw : wrap64 ((pre.length : Int) + 1) = ((pre ++ [x]).length : Int) := by rw [w64 (by omega) (by omega), len_snoc]
    have hv : wrap64 (((h :: t).length : Int) - 1) = ((h :: t).length : Int) - 1 := w64 (by omega) (by omega)
    have hr : rd_T48 (h :: t) (pre.length : Int) = x := by
      rw [← e]
      exact rdI_Flit _ _ _
    have ih := IsWhole_i_l0 h t hn rest (pre ++ [x]) (by simpa using e)
    refine Ev.suc ?_
    simp only [impl_IsWhole.l0, hr, rd_head, hv, hw]
    refine Ev.ite_pos (by omega) (Ev.ite_pos (by omega) ?_)
    refine Ev.ite (fun hb => Ev.val ?_) (fun hb => Ev.eq ih ?_)
    · unfold wR
      rw [decide_eq_false, Bool.false_and]
      intro hg
      obtain ⟨g0, g1, g2, g3, g4⟩ := hg
      simp [g0, g1, g2, g3, g4] at hb
    · have hg : wOne h ((h :: t).length : Int) (pre.length : Int) x := by
        simp only [Bool.or_eq_true, Bool.not_eq_true', beq_eq_false_iff_ne, not_or, ne_eq, Decidable.not_not] at hb
        exact ⟨hb.1, hb.2.1, hb.2.2.1, hb.2.2.2.1, hb.2.2.2.2⟩
      rw [len_snoc]
      conv => rhs; unfold wR
      rw [decide_eq_true hg, Bool.true_and]
theorem IsWhole_i (l : List S48) (hl : l.length ≤ 1152921504606846976) : Ev (fun k => impl_IsWhole.f k l) (wholeB l) := by
  unfold impl_IsWhole.f
  cases l with
  | nil =>
    refine Ev.suc ?_
    simp only [impl_IsWhole.l0]
    exact Ev.ite_neg (by simp) (Ev.val (by simp [wholeB]))
  | cons h t => exact IsWhole_i_l0 h t hl (h :: t) [] rfl

/-! ### cntTail -/
def cntTail : List S48 → Int
  | [] => 0
  | x :: l => (if x.f4 = true then 1 else 0) + cntTail l
theorem cntTail_b : ∀ l : List S48, 0 ≤ cntTail l ∧ cntTail l ≤ (l.length : Int)
  | [] => ⟨Int.le_refl _, Int.le_refl _⟩
  | x :: l => by
    have := cntTail_b l
    unfold cntTail
    simp only [List.length_cons]
    split <;> omega

/-! ### CountPackets_i -/
theorem CountPackets_i_l0 : ∀ (rest pre : List S48) (c : Int), pre.length + rest.length ≤ 1152921504606846976 → 0 ≤ c → c ≤ (pre.length : Int) →
    Ev (fun k => impl_CountPackets.l0 k c (pre ++ rest) ((pre ++ rest).length : Int) (pre.length : Int)) (c + cntTail rest)
  | [], pre, c, _, _, _ => by
    refine Ev.suc ?_
    simp only [impl_CountPackets.l0]
    exact Ev.ite_neg (by simp) (Ev.val (by simp [cntTail]))
  | x :: rest, pre, c, hl, h0, h1 => by
    simp only [List.length_cons] at hl
    have h2 : (pre.length : Int) < ((pre ++ x :: rest).length : Int) := by simp only [List.length_append, List.length_cons]; omega
    have hw : wrap64 ((pre.length : Int) + 1) = ((pre ++ [x]).length : Int) := by rw [w64 (by omega) (by omega), len_snoc]
    have ih := fun c' h0' h1' => CountPackets_i_l0 rest (pre ++ [x]) c' (by simp only [List.length_append, List.length_cons, List.length_nil]; omega) h0' h1'
    refine Ev.suc ?_
    simp only [impl_CountPackets.l0, rdI_Flit, hw]
    refine Ev.ite_pos h2 (Ev.ite_pos (by omega) (Ev.ite_pos h2 ?_))
    rw [snoc_app pre x rest]
    refine Ev.ite (fun ht => ?_) (fun ht => ?_)
    · rw [w64 (by omega) (by omega)]
      refine Ev.eq (ih (c + 1) (by omega) (by rw [len_snoc]; omega)) ?_
      simp only [cntTail, ht, if_true]
      omega
    · refine Ev.eq (ih c (by omega) (by rw [len_snoc]; omega)) ?_
      simp [cntTail, ht]
theorem CountPackets_i (l : List S48) (h : l.length ≤ 1152921504606846976) : Ev (fun k => impl_CountPackets.f k l) (cntTail l) := by
  unfold impl_CountPackets.f
  exact Ev.eq (CountPackets_i_l0 l [] 0 (by simpa using h) (by omega) (by simp)) (by omega)

/-! ### flNe -/
def flNe (x y : S48) : Bool := (!(x.f0 == y.f0)) || ((!(x.f1 == y.f1)) || ((!(x.f2 == y.f2)) || ((!(x.f3 == y.f3)) || (!(x.f4 == y.f4)))))
def sameR : List S48 → List S48 → Bool
  | [], [] => true
  | x :: a, y :: b => !flNe x y && sameR a b
  | _, _ => false
theorem sameR_len : ∀ a b : List S48, a.length ≠ b.length → sameR a b = false
  | [], [], h => absurd rfl h
  | [], _ :: _, _ => rfl
  | _ :: _, [], _ => rfl
  | x :: a, y :: b, h => by
    unfold sameR
    rw [sameR_len a b (fun e => h (by simp [e])), Bool.and_false]

/-! ### SameFlits_i -/
theorem SameFlits_i_l0 : ∀ (ra rb pa pb : List S48), pa.length = pb.length → ra.length = rb.length → pa.length + ra.length < 1152921504606846976 →
    Ev (fun k => impl_Flit.l0 k (pa ++ ra) (pb ++ rb) ((pa ++ ra).length : Int) (pa.length : Int)) (sameR ra rb)
  | [], rb, pa, pb, hp, hr, hl => by
    have : rb = [] := List.length_eq_zero_iff.1 hr.symm
    subst this
    refine Ev.suc ?_
    simp only [impl_Flit.l0]
    exact Ev.ite_neg (by simp) (Ev.val (by simp [sameR]))
  | x :: ra, rb, pa, pb, hp, hr, hl => by
    obtain ⟨y, rb, rfl⟩ : ∃ y rb', rb = y :: rb' := by
      cases rb with
      | nil => simp at hr
      | cons y rb' => exact ⟨y, rb', rfl⟩
    simp only [List.length_cons] at hr hl
    have h1 : (pa.length : Int) < ((pa ++ x :: ra).length : Int) := by simp only [List.length_append, List.length_cons]; omega
    have h2 : (pa.length : Int) < ((pb ++ y :: rb).length : Int) := by simp only [List.length_append, List.length_cons]; omega
    have hw : wrap64 ((pa.length : Int) + 1) = ((pa ++ [x]).length : Int) := by rw [w64 (by omega) (by omega), len_snoc]
    have e2 : rd_T48 (pb ++ y :: rb) (pa.length : Int) = y := by
      rw [hp]
      exact rdI_Flit _ _ _
    have ih := SameFlits_i_l0 ra rb (pa ++ [x]) (pb ++ [y]) (by simp [hp]) (by omega) (by simp only [List.length_append, List.length_cons, List.length_nil]; omega)
    rw [← snoc_app pa x ra, ← snoc_app pb y rb] at ih
    refine Ev.suc ?_
    simp only [impl_Flit.l0, rdI_Flit, e2, hw]
    refine Ev.ite_pos h1 (Ev.ite_pos (by omega) (Ev.ite_pos h1 (Ev.ite_pos h2 ?_)))
    refine Ev.ite (fun h => Ev.val ?_) (fun h => ?_)
    · have h' : flNe x y = true := h
      simp [sameR, h']
    · have h' : flNe x y = false := by
        cases hb : flNe x y with
        | true => exact absurd hb h
        | false => rfl
      refine Ev.eq ih ?_
      simp [sameR, h']
theorem SameFlits_i (a b : List S48) (h : a.length ≤ 1048576) : Ev (fun k => impl_SameFlits.f k a b) (sameR a b) := by
  unfold impl_SameFlits.f impl_Flit.f
  refine Ev.bind (f := fun _ t => some t) (?_ : Ev _ (sameR a b)) (Ev.now _)
  refine Ev.ite (fun h2 => ?_) (fun h2 => Ev.val (sameR_len a b (by omega)).symm)
  exact SameFlits_i_l0 a b [] [] rfl (by omega) (by simp; omega)

/-! ### flitsWhole -/
theorem flits_eq (w h i f t c l : Int) (hp : pkOk w h i f t c l) : flitsL w h i f t c l = (List.range l.toNat).map (flitAt i t c l) := if_pos hp
theorem l_cases {l : Int} (h : 1 ≤ l ∧ l ≤ 5) : l = 1 ∨ l = 2 ∨ l = 3 ∨ l = 4 ∨ l = 5 := by omega
theorem flits_whole (i t c l : Int) (h : 1 ≤ l ∧ l ≤ 5) : wholeB ((List.range l.toNat).map (flitAt i t c l)) = true := by
  rcases l_cases h with rfl | rfl | rfl | rfl | rfl <;> simp [wholeB, wR, wOne, flitAt, List.range_succ]
theorem flits_take (i t c l : Int) (h : 1 ≤ l ∧ l ≤ 5) (k : Nat) (hk : (k : Int) < l) : wholeB (((List.range l.toNat).map (flitAt i t c l)).take k) = false := by
  have : k = 0 ∨ k = 1 ∨ k = 2 ∨ k = 3 ∨ k = 4 := by omega
  rcases l_cases h with rfl | rfl | rfl | rfl | rfl <;> rcases this with rfl | rfl | rfl | rfl | rfl <;> first | (exfalso; omega) | simp [wholeB, wR, wOne, flitAt, List.range_succ]
theorem flits_drop (i t c l : Int) (h : 1 ≤ l ∧ l ≤ 5) (k : Nat) (hk : (k : Int) < l) (h0 : k ≠ 0) : wholeB (((List.range l.toNat).map (flitAt i t c l)).drop k) = false := by
  have : k = 0 ∨ k = 1 ∨ k = 2 ∨ k = 3 ∨ k = 4 := by omega
  rcases l_cases h with rfl | rfl | rfl | rfl | rfl <;> rcases this with rfl | rfl | rfl | rfl | rfl <;> first | (exfalso; omega) | simp [wholeB, wR, wOne, flitAt, List.range_succ]
theorem flits_count (i t c l : Int) (h : 1 ≤ l ∧ l ≤ 5) : cntTail ((List.range l.toNat).map (flitAt i t c l)) = 1 := by
  rcases l_cases h with rfl | rfl | rfl | rfl | rfl <;> simp [cntTail, flitAt, List.range_succ]
theorem sameR_refl : ∀ l : List S48, sameR l l = true
  | [] => rfl
  | x :: l => by
    have ih := sameR_refl l
    simp [sameR, ih, flNe]
theorem flits_head (i t c l : Int) (h : 1 ≤ l ∧ l ≤ 5) : (rd_T48 ((List.range l.toNat).map (flitAt i t c l)) 0).f0 = i := by
  rcases l_cases h with rfl | rfl | rfl | rfl | rfl <;> rfl
theorem flits_len (i t c l : Int) (h : 1 ≤ l ∧ l ≤ 5) : (((List.range l.toNat).map (flitAt i t c l)).length : Int) = l := by
  rw [List.length_map, List.length_range]
  omega

theorem DrawPacket_f (b : List Int) (hb : b.length ≤ 140737488351232) : ∃ w g i f t c l, Ev (fun k => spec_DrawPacket.f k b) (w, g, i, f, t, c, l) ∧ pkOk w g i f t c l := by
  obtain ⟨h0, e0⟩ := l01New_f b hb
  have c0 := l01New_ok b hb
  obtain ⟨w, g, i1, h1, e1, n1, c1⟩ := l14Grid_f b 0 h0 c0
  obtain ⟨r, i2, h2, e2, r0, r1, _, c2⟩ := l01Below_f b i1 h1 50 c1
  have r2 := r1 (by omega)
  have w1 : wrap64 (1 + r) = 1 + r := w64 (by omega) (by omega)
  obtain ⟨f, t, c, l, i3, h3, e3, p, c3⟩ := l14Packet_f b i2 h2 w g (1 + r) c2 n1 (by omega)
  refine ⟨w, g, 1 + r, f, t, c, l, ?_, p⟩
  unfold spec_DrawPacket.f
  refine Ev.bind e0 ?_
  simp only [e1, Option.bind_some, e2, w1, e3]
  exact Ev.now _
theorem FnFlits : FnFlits_says := by
  intro b hl
  refine Ev.rounds ?_
  unfold laws_FnFlits.f
  simp only [big_f, Option.bind_some]
  refine Ev.ite (fun _ => Ev.now _) (fun hbig => ?_)
  simp only [decide_eq_true_eq] at hbig
  obtain ⟨w, g, i, f, t, c, l, e1, hp⟩ := DrawPacket_f b (by omega)
  obtain ⟨ps, e2, hn, hr⟩ := DrawPlaces_f b (by omega)
  have hfl := flits_eq w g i f t c l hp
  have e3 := FlitsOf_i w g i f t c l
  have hL : 1 ≤ l ∧ l ≤ 5 := hp.2.2.2.2.2
  have hok : decide (pkOk w g i f t c l) = true := decide_eq_true hp
  have g1 := flits_whole i t c l hL
  have g2 := flits_take i t c l hL
  have g3 := flits_drop i t c l hL
  have g4 := flits_count i t c l hL
  have g5 := flits_head i t c l hL
  have g6 := flits_len i t c l hL
  rw [hfl] at e3
  generalize (List.range l.toNat).map (flitAt i t c l) = F at *
  have hF : F.length ≤ 5 := by omega
  have hr0 := hr 0 (by omega) (by omega)
  have m0 : 0 ≤ Int.tmod (rd ps 0) l ∧ Int.tmod (rd ps 0) l < l := by
    rw [Int.tmod_eq_emod_of_nonneg hr0.1]
    exact ⟨Int.emod_nonneg _ (by omega), Int.emod_lt_of_pos _ (by omega)⟩
  have w1 := IsWhole_i F (by omega)
  rw [g1] at w1
  have w4 := CountPackets_i F (by omega)
  rw [g4] at w4
  have w5 := SameFlits_i F F (by omega)
  rw [sameR_refl] at w5
  refine Ev.bind e1 (Ev.bind e3 (Ev.bind e2 ?_))
  simp only [g6]
  generalize Int.tmod (rd ps 0) l = k at *
  obtain ⟨q, rfl⟩ : ∃ q : Nat, (q : Int) = k := ⟨k.toNat, by omega⟩
  have w2 := IsWhole_i (F.take q) (by rw [List.length_take]; omega)
  rw [g2 q m0.2] at w2
  have w3 := IsWhole_i (F.drop q) (by rw [List.length_drop]; omega)
  have hz : 0 < (F.length : Int) := by omega
  simp only [PacketOk_i, hok, Option.bind_some, Int.toNat_natCast]
  refine Ev.ite_pos trivial (Ev.ite_pos (by omega) (Ev.ite_neg (by omega) (Ev.ite_pos trivial (Ev.bind w1 (Ev.ite_pos rfl (Ev.ite_pos m0.1 (Ev.ite_pos (by omega) (Ev.bind w2 (Ev.ite_neg (by simp) ?_)))))))))
  refine Ev.ite (fun h0 => ?_) (fun h0 => ?_)
  · exact Ev.bind w4 (Ev.ite_pos rfl (Ev.bind w5 (Ev.ite_pos rfl (Ev.ite_pos (by omega) (Ev.val (by simp [g5]))))))
  · rw [g3 q m0.2 (by omega)] at w3
    exact Ev.bind w3 (Ev.ite_neg (by simp) (Ev.bind w4 (Ev.ite_pos rfl (Ev.bind w5 (Ev.ite_pos rfl (Ev.ite_pos (by omega) (Ev.val (by simp [g5]))))))))

end Go.Proofs.Ytjialkmfmpkjgaa.Pure
