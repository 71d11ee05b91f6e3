/- The plain statement of the law FnRanksXY: the ranks of the channels rise along each route by the standard XY table; the sixteen grids are looked through. No condition. -/
import Derived.Test.YtjialkmfmpkjgaaPFnRanksXYx
import Derived.Test.YtjialkmfmpkjgaaU
import Derived.Test.YtjialkmfmpkjgaaSaysFnRanksXY
namespace Go.Proofs.Ytjialkmfmpkjgaa.Pure
open Go.RowKit Go.Proofs.Ytjialkmfmpkjgaa.PFnRanksXY Go.Proofs.YtjialkmfmpkjgaaW.PrintWords Go.Proofs.YtjialkmfmpkjgaaW.PrintLast Go.Proofs.YtjialkmfmpkjgaaW.PrintMore Go.Proofs.Ytjialkmfmpkjgaa.U
set_option linter.unusedVariables false
set_option linter.unusedSimpArgs false

/-! ### big -/
theorem big_f (b : List Int) : laws_big.f b = some (decide ((b.length : Int) > 1048576)) := rfl

/-! ### cur -/
def CurOk (b : List Int) (i : Int) : Prop := 0 ≤ i ∧ i ≤ (b.length : Int) ∧ b.length ≤ 140737488351232
theorem l01New_l0 (b : List Int) (hb : b.length ≤ 140737488351232) : ∀ (d : Nat) (i h : Int), 0 ≤ i → i ≤ (b.length : Int) → (b.length : Int) - i = d → ∃ h', Ev (fun k => spec_l01New.l0 k b h i) (b, 0, h')
  | 0, i, h, h0, h1, hd => ⟨h, by
    refine Ev.suc ?_
    simp only [spec_l01New.l0]
    exact Ev.ite_neg (by omega) (Ev.now _)⟩
  | d + 1, i, h, h0, h1, hd => by
    by_cases h4 : i < 4000
    · obtain ⟨h', hh⟩ := l01New_l0 b hb d (i + 1) (Go.bits .and .i64 (wrap64 ((wrap64 ((wrap64 (h * 131)) + (wrap64 (rd b i)))) + 7)) 1073741823) (by omega) (by omega) (by omega)
      refine ⟨h', ?_⟩
      refine Ev.suc ?_
      simp only [spec_l01New.l0]
      refine Ev.ite_pos (by omega) (Ev.ite_pos h4 (Ev.ite_pos h0 ?_))
      rw [w64 (x := i + 1) (by omega) (by omega)]
      exact hh
    · refine ⟨h, ?_⟩
      refine Ev.suc ?_
      simp only [spec_l01New.l0]
      exact Ev.ite_pos (by omega) (Ev.ite_neg h4 (Ev.now _))
theorem l01New_f (b : List Int) (hb : b.length ≤ 140737488351232) : ∃ h', Ev (fun k => spec_l01New.f k b) (b, 0, h') := l01New_l0 b hb b.length 0 _ (by omega) (by omega) (by omega)
theorem l01New_ok (b : List Int) (hb : b.length ≤ 140737488351232) : CurOk b 0 := ⟨by omega, by omega, hb⟩
theorem l01Byte_f (b : List Int) (i h : Int) (hc : CurOk b i) : ∃ r i' h', spec_l01Byte.f b i h = some (r, i', h') ∧ 0 ≤ r ∧ r ≤ 255 ∧ CurOk b i' := by
  obtain ⟨h0, h1, h2⟩ := hc
  unfold spec_l01Byte.f
  by_cases hl : i < (b.length : Int)
  · rw [if_pos hl, if_pos h0]
    refine ⟨_, _, _, rfl, (and255 _).1, (and255 _).2, ?_⟩
    rw [w64 (by omega) (by omega)]
    exact ⟨by omega, by omega, h2⟩
  · rw [if_neg hl]
    exact ⟨_, _, _, rfl, (and255 _).1, (and255 _).2, h0, h1, h2⟩
theorem l01Below_f (b : List Int) (i h n : Int) (hc : CurOk b i) : ∃ r i' h', spec_l01Below.f b i h n = some (r, i', h') ∧ 0 ≤ r ∧ (0 < n → r < n) ∧ (n ≤ 0 → r = 0) ∧ CurOk b i' := by
  unfold spec_l01Below.f
  by_cases hn : n ≤ 0
  · rw [if_pos hn]
    exact ⟨0, i, h, rfl, by omega, by omega, fun _ => rfl, hc⟩
  · rw [if_neg hn]
    have tm : ∀ x : Int, 0 ≤ x → 0 ≤ Int.tmod x n ∧ Int.tmod x n < n := fun x hx => by
      rw [Int.tmod_eq_emod_of_nonneg hx]
      exact ⟨Int.emod_nonneg _ (by omega), Int.emod_lt_of_pos _ (by omega)⟩
    by_cases h2 : n ≤ 256
    · obtain ⟨r, i', h', e, r0, r1, hc'⟩ := l01Byte_f b i h hc
      rw [if_pos h2, e]
      simp only [Option.bind_some]
      rw [if_neg (by omega)]
      exact ⟨_, _, _, rfl, (tm r r0).1, fun _ => (tm r r0).2, fun h => absurd h hn, hc'⟩
    · rw [if_neg h2]
      obtain ⟨x, i1, h1, e1, x0, x1, hc1⟩ := l01Byte_f b i h hc
      obtain ⟨y, i2, h2', e2, y0, y1, hc2⟩ := l01Byte_f b i1 h1 hc1
      obtain ⟨z, i3, h3, e3, z0, z1, hc3⟩ := l01Byte_f b i2 h2' hc2
      obtain ⟨w, i4, h4, e4, w0, w1, hc4⟩ := l01Byte_f b i3 h3 hc3
      simp only [e1, e2, e3, e4, Option.bind_some]
      rw [if_neg (by omega)]
      have hs : wrap64 ((wrap64 ((wrap64 ((wrap64 (x * 16777216)) + (wrap64 (y * 65536)))) + (wrap64 (z * 256)))) + w) = x * 16777216 + y * 65536 + z * 256 + w := by
        rw [w64 (x := x * 16777216) (by omega) (by omega), w64 (x := y * 65536) (by omega) (by omega), w64 (x := z * 256) (by omega) (by omega)]
        rw [w64 (x := x * 16777216 + y * 65536) (by omega) (by omega)]
        rw [w64 (x := x * 16777216 + y * 65536 + z * 256) (by omega) (by omega)]
        exact w64 (by omega) (by omega)
      rw [hs]
      exact ⟨_, _, _, rfl, (tm _ (by omega)).1, fun _ => (tm _ (by omega)).2, fun h => absurd h hn, hc4⟩

/-! ### DrawPlaces -/
theorem DrawPlaces_l0 (b : List Int) : ∀ (d : Nat) (l : List Int) (i p h : Int), CurOk b p → (l.length : Int) = i → (12 : Int) - i = d → (∀ x ∈ l, 0 ≤ x ∧ x ≤ 9999) →
    ∃ ps, Ev (fun k => spec_DrawPlaces.l0 k l i b p h) ps ∧ ps.length = 12 ∧ ∀ x ∈ ps, 0 ≤ x ∧ x ≤ 9999
  | 0, l, i, p, h, hc, hl, hd, hx => ⟨l, by
    refine Ev.suc ?_
    simp only [spec_DrawPlaces.l0]
    exact Ev.ite_neg (by omega) (Ev.now _), by omega, hx⟩
  | d + 1, l, i, p, h, hc, hl, hd, hx => by
    obtain ⟨r, p', h', e, r0, r1, _, hc'⟩ := l01Below_f b p h 10000 hc
    obtain ⟨ps, hp, hp2⟩ := DrawPlaces_l0 b d (l ++ [r]) (i + 1) p' h' hc' (by simp; omega) (by omega) (fun x hm => by
      rcases List.mem_append.1 hm with hm | hm
      · exact hx x hm
      · rw [List.mem_singleton.1 hm]
        have := r1 (by omega)
        omega)
    refine ⟨ps, ?_, hp2⟩
    refine Ev.suc ?_
    simp only [spec_DrawPlaces.l0, e, Option.bind_some]
    refine Ev.ite_pos (by omega) (Ev.ite_pos (by omega) ?_)
    rw [w64 (by omega) (by omega)]
    exact hp
theorem DrawPlaces_f (b : List Int) (hb : b.length ≤ 140737488351232) : ∃ ps, Ev (fun k => spec_DrawPlaces.f k b) ps ∧ ps.length = 12 ∧ ∀ i, 0 ≤ i → i < 12 → 0 ≤ rd ps i ∧ rd ps i ≤ 9999 := by
  obtain ⟨h', hn⟩ := l01New_f b hb
  obtain ⟨ps, hp, hl, hx⟩ := DrawPlaces_l0 b 12 [] 0 0 h' (l01New_ok b hb) (by simp) (by omega) (fun x hx => by cases hx)
  refine ⟨ps, ?_, hl, fun i h0 h1 => hx _ ?_⟩
  · unfold spec_DrawPlaces.f
    exact Ev.bind hn hp
  · unfold rd
    rw [List.getD_eq_getElem?_getD, List.getElem?_eq_getElem (by omega)]
    exact List.getElem_mem _

/-! ### grid -/
abbrev gOk (w h : Int) : Prop := 1 ≤ w ∧ w ≤ 4 ∧ 1 ≤ h ∧ h ≤ 4
def ncR (w h : Int) : Int := if gOk w h then w * h else 0
theorem mul_b {w h : Int} (hw : 1 ≤ w ∧ w ≤ 4) (hh : 1 ≤ h ∧ h ≤ 4) : 1 ≤ w * h ∧ w * h ≤ 16 := by
  obtain h1 | h1 | h1 | h1 : w = 1 ∨ w = 2 ∨ w = 3 ∨ w = 4 := by omega
  all_goals
    subst h1
    omega
theorem ncR_b (w h : Int) : 0 ≤ ncR w h ∧ ncR w h ≤ 16 := by
  unfold ncR
  split
  · rename_i hg
    have := mul_b ⟨hg.1, hg.2.1⟩ hg.2.2
    omega
  · omega
abbrev nodeOk (w h n : Int) : Prop := 0 ≤ n ∧ n ≤ ncR w h - 1

/-! ### drawGrid -/
theorem pick6_f (b : List Int) (i h : Int) (hc : CurOk b i) : ∃ v i' h', spec_l01PickInt.f b i h [1, 2, 2, 3, 3, 4] = some (v, i', h') ∧ (1 ≤ v ∧ v ≤ 4) ∧ CurOk b i' := by
  obtain ⟨r, i', h', e, r0, r1, _, hc'⟩ := l01Below_f b i h 6 hc
  have r2 := r1 (by omega)
  refine ⟨rd [1, 2, 2, 3, 3, 4] r, i', h', ?_, ?_, hc'⟩
  · unfold spec_l01PickInt.f
    have e6 : (([1, 2, 2, 3, 3, 4] : List Int).length : Int) = 6 := rfl
    rw [e6, e, Option.bind_some, if_pos r0, if_pos r2]
  · have : r = 0 ∨ r = 1 ∨ r = 2 ∨ r = 3 ∨ r = 4 ∨ r = 5 := by omega
    rcases this with rfl | rfl | rfl | rfl | rfl | rfl <;> decide
theorem l02Grid_f (b : List Int) (i h : Int) (hc : CurOk b i) : ∃ w g i' h', spec_l02Grid.f b i h = some (w, g, i', h') ∧ gOk w g ∧ CurOk b i' := by
  obtain ⟨w, i1, h1, e1, w1, c1⟩ := pick6_f b i h hc
  obtain ⟨g, i2, h2, e2, g1, c2⟩ := pick6_f b i1 h1 c1
  refine ⟨w, g, i2, h2, ?_, ⟨w1.1, w1.2, g1.1, g1.2⟩, c2⟩
  unfold spec_l02Grid.f
  rw [e1, Option.bind_some, e2, Option.bind_some]

def tabXY (w h : Int) : List Int := ((impl_StandardTable.f 600 w h 1).getD ([], false)).1
def chkRow (w h : Int) (t : List Int) (a b : Int) : Bool := match impl_WalkTable.f 40 w h [] t a b with
  | some r => (laws_FnRanksXY.l0 120 true (w * h) r [] 0 w h) == some true
  | none => false
def chkAll (w h : Int) : Bool := (fun t => (List.range (w * h).toNat).all fun a => (List.range (w * h).toNat).all fun b => chkRow w h t (a : Int) (b : Int)) (tabXY w h)
def chkG (w h : Int) : Bool := (impl_StandardTable.f 600 w h 1 == some (tabXY w h, true)) && chkAll w h
set_option maxRecDepth 100000 in
theorem chkG_ok (w h : Int) (hg : gOk w h) : chkG w h = true := by
  obtain ⟨w0, w1, h0, h1⟩ := hg
  obtain rfl | rfl | rfl | rfl : w = 1 ∨ w = 2 ∨ w = 3 ∨ w = 4 := by omega
  all_goals obtain rfl | rfl | rfl | rfl : h = 1 ∨ h = 2 ∨ h = 3 ∨ h = 4 := by omega
  all_goals decide +kernel
theorem chkRow_ok {w h : Int} {t : List Int} {a b : Int} (e : chkRow w h t a b = true) : ∃ r, impl_WalkTable.f 40 w h [] t a b = some r ∧ laws_FnRanksXY.l0 120 true (w * h) r [] 0 w h = some true := by
  unfold chkRow at e
  split at e
  · rename_i r hr
    exact ⟨r, hr, by simpa using e⟩
  · exact absurd e (by simp)
theorem FnRanksXY : FnRanksXY_says := by
  intro b hl
  refine Ev.rounds ?_
  unfold laws_FnRanksXY.f
  simp only [big_f, Option.bind_some]
  refine Ev.ite (fun _ => Ev.now _) (fun hbig => ?_)
  simp only [decide_eq_true_eq] at hbig
  obtain ⟨h0, e0⟩ := l01New_f b (by omega)
  obtain ⟨w, h, i1, h1, e1, hg, _⟩ := l02Grid_f b 0 h0 (l01New_ok b (by omega))
  obtain ⟨ps, e2, hn, hr⟩ := DrawPlaces_f b (by omega)
  have hd : Ev (fun k => spec_DrawGrid.f k b) (w, h) := by
    unfold spec_DrawGrid.f
    refine Ev.bind e0 ?_
    simp only [e1, Option.bind_some]
    exact Ev.now _
  have hc := chkG_ok w h hg
  unfold chkG at hc
  rw [Bool.and_eq_true] at hc
  obtain ⟨c1, c2⟩ := hc
  have c1' : impl_StandardTable.f 600 w h 1 = some (tabXY w h, true) := by simpa using c1
  have ht := Ev.of (impl_StandardTable.mono w h 1) c1'
  have hm := mul_b ⟨hg.1, hg.2.1⟩ hg.2.2
  have hw : wrap64 (w * h) = w * h := w64 (by omega) (by omega)
  have m : ∀ i, 0 ≤ i → i < 12 → 0 ≤ Int.tmod (rd ps i) (w * h) ∧ Int.tmod (rd ps i) (w * h) < w * h := fun i i0 i1 => by
    rw [Int.tmod_eq_emod_of_nonneg (hr i i0 i1).1]
    exact ⟨Int.emod_nonneg _ (by omega), Int.emod_lt_of_pos _ (by omega)⟩
  have m0 := m 0 (by omega) (by omega)
  have m1 := m 1 (by omega) (by omega)
  unfold chkAll at c2
  rw [List.all_eq_true] at c2
  refine Ev.bind hd (Ev.bind ht (Ev.bind e2 ?_))
  simp only [hw]
  generalize Int.tmod (rd ps 0) (w * h) = x at *
  generalize Int.tmod (rd ps 1) (w * h) = y at *
  have c3 := c2 x.toNat (List.mem_range.2 (by omega))
  rw [List.all_eq_true] at c3
  have c4 := c3 y.toNat (List.mem_range.2 (by omega))
  rw [Int.toNat_of_nonneg m0.1, Int.toNat_of_nonneg m1.1] at c4
  obtain ⟨r, r1, r2⟩ := chkRow_ok c4
  refine Ev.ite_pos (by omega) (Ev.ite_neg (by omega) (Ev.ite_pos (by omega) (Ev.bind (Ev.of (impl_WalkTable.mono w h [] (tabXY w h) x y) r1) ?_)))
  exact Ev.of (fun k => laws_FnRanksXY.mono_l k _ _ _ _ _ _ _) r2

end Go.Proofs.Ytjialkmfmpkjgaa.Pure
