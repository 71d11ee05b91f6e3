/- The plain statement of the law FnHops: the hops along a ring follow each other, and the class changes at most once, behind the last channel. No condition. -/
import Derived.Test.YtffkmajlelhiaaaPFnHopsx
import Derived.Test.YtffkmajlelhiaaaU
import Derived.Test.YtffkmajlelhiaaaSaysFnHops
namespace Go.Proofs.Ytffkmajlelhiaaa.Pure
open Go.RowKit Go.Proofs.Ytffkmajlelhiaaa.PFnHops Go.Proofs.YtffkmajlelhiaaaW.PrintWords Go.Proofs.YtffkmajlelhiaaaW.PrintLast Go.Proofs.YtffkmajlelhiaaaW.PrintMore Go.Proofs.Ytffkmajlelhiaaa.U
set_option linter.unusedVariables false
set_option linter.unusedSimpArgs false

/-! ### big -/
theorem big_f (b : List Int) : laws_big.f b = some (decide ((b.length : Int) > 1048576)) := rfl

/-! ### cur -/
def CurOk (b : List Int) (i : Int) : Prop := 0 ≤ i ∧ i ≤ (b.length : Int) ∧ b.length ≤ 140737488351232
theorem l01New_l0 (b : List Int) (hb : b.length ≤ 140737488351232) : ∀ (d : Nat) (i h : Int), 0 ≤ i → i ≤ (b.length : Int) → (b.length : Int) - i = d → ∃ h', Ev (fun k => spec_l01New.l0 k b h i) (b, 0, h')
  | 0, i, h, h0, h1, hd => ⟨h, by
    refine Ev.suc ?_
    simp only [spec_l01New.l0]
    exact Ev.ite_neg (by omega) (Ev.now _)⟩
  | d + 1, i, h, h0, h1, hd => by
    by_cases h4 : i < 4000
    · obtain ⟨h', hh⟩ := l01New_l0 b hb d (i + 1) (Go.bits .and .i64 (wrap64 ((wrap64 ((wrap64 (h * 131)) + (wrap64 (rd b i)))) + 7)) 1073741823) (by omega) (by omega) (by omega)
      refine ⟨h', ?_⟩
      refine Ev.suc ?_
      simp only [spec_l01New.l0]
      refine Ev.ite_pos (by omega) (Ev.ite_pos h4 (Ev.ite_pos h0 ?_))
      rw [w64 (x := i + 1) (by omega) (by omega)]
      exact hh
    · refine ⟨h, ?_⟩
      refine Ev.suc ?_
      simp only [spec_l01New.l0]
      exact Ev.ite_pos (by omega) (Ev.ite_neg h4 (Ev.now _))
theorem l01New_f (b : List Int) (hb : b.length ≤ 140737488351232) : ∃ h', Ev (fun k => spec_l01New.f k b) (b, 0, h') := l01New_l0 b hb b.length 0 _ (by omega) (by omega) (by omega)
theorem l01New_ok (b : List Int) (hb : b.length ≤ 140737488351232) : CurOk b 0 := ⟨by omega, by omega, hb⟩
theorem l01Byte_f (b : List Int) (i h : Int) (hc : CurOk b i) : ∃ r i' h', spec_l01Byte.f b i h = some (r, i', h') ∧ 0 ≤ r ∧ r ≤ 255 ∧ CurOk b i' := by
  obtain ⟨h0, h1, h2⟩ := hc
  unfold spec_l01Byte.f
  by_cases hl : i < (b.length : Int)
  · rw [if_pos hl, if_pos h0]
    refine ⟨_, _, _, rfl, (and255 _).1, (and255 _).2, ?_⟩
    rw [w64 (by omega) (by omega)]
    exact ⟨by omega, by omega, h2⟩
  · rw [if_neg hl]
    exact ⟨_, _, _, rfl, (and255 _).1, (and255 _).2, h0, h1, h2⟩
theorem l01Below_f (b : List Int) (i h n : Int) (hc : CurOk b i) : ∃ r i' h', spec_l01Below.f b i h n = some (r, i', h') ∧ 0 ≤ r ∧ (0 < n → r < n) ∧ (n ≤ 0 → r = 0) ∧ CurOk b i' := by
  unfold spec_l01Below.f
  by_cases hn : n ≤ 0
  · rw [if_pos hn]
    exact ⟨0, i, h, rfl, by omega, by omega, fun _ => rfl, hc⟩
  · rw [if_neg hn]
    have tm : ∀ x : Int, 0 ≤ x → 0 ≤ Int.tmod x n ∧ Int.tmod x n < n := fun x hx => by
      rw [Int.tmod_eq_emod_of_nonneg hx]
      exact ⟨Int.emod_nonneg _ (by omega), Int.emod_lt_of_pos _ (by omega)⟩
    by_cases h2 : n ≤ 256
    · obtain ⟨r, i', h', e, r0, r1, hc'⟩ := l01Byte_f b i h hc
      rw [if_pos h2, e]
      simp only [Option.bind_some]
      rw [if_neg (by omega)]
      exact ⟨_, _, _, rfl, (tm r r0).1, fun _ => (tm r r0).2, fun h => absurd h hn, hc'⟩
    · rw [if_neg h2]
      obtain ⟨x, i1, h1, e1, x0, x1, hc1⟩ := l01Byte_f b i h hc
      obtain ⟨y, i2, h2', e2, y0, y1, hc2⟩ := l01Byte_f b i1 h1 hc1
      obtain ⟨z, i3, h3, e3, z0, z1, hc3⟩ := l01Byte_f b i2 h2' hc2
      obtain ⟨w, i4, h4, e4, w0, w1, hc4⟩ := l01Byte_f b i3 h3 hc3
      simp only [e1, e2, e3, e4, Option.bind_some]
      rw [if_neg (by omega)]
      have hs : wrap64 ((wrap64 ((wrap64 ((wrap64 (x * 16777216)) + (wrap64 (y * 65536)))) + (wrap64 (z * 256)))) + w) = x * 16777216 + y * 65536 + z * 256 + w := by
        rw [w64 (x := x * 16777216) (by omega) (by omega), w64 (x := y * 65536) (by omega) (by omega), w64 (x := z * 256) (by omega) (by omega)]
        rw [w64 (x := x * 16777216 + y * 65536) (by omega) (by omega)]
        rw [w64 (x := x * 16777216 + y * 65536 + z * 256) (by omega) (by omega)]
        exact w64 (by omega) (by omega)
      rw [hs]
      exact ⟨_, _, _, rfl, (tm _ (by omega)).1, fun _ => (tm _ (by omega)).2, fun h => absurd h hn, hc4⟩

/-! ### DrawPlaces -/
theorem DrawPlaces_l0 (b : List Int) : ∀ (d : Nat) (l : List Int) (i p h : Int), CurOk b p → (l.length : Int) = i → (12 : Int) - i = d → (∀ x ∈ l, 0 ≤ x ∧ x ≤ 9999) →
    ∃ ps, Ev (fun k => spec_DrawPlaces.l0 k l i b p h) ps ∧ ps.length = 12 ∧ ∀ x ∈ ps, 0 ≤ x ∧ x ≤ 9999
  | 0, l, i, p, h, hc, hl, hd, hx => ⟨l, by
    refine Ev.suc ?_
    simp only [spec_DrawPlaces.l0]
    exact Ev.ite_neg (by omega) (Ev.now _), by omega, hx⟩
  | d + 1, l, i, p, h, hc, hl, hd, hx => by
    obtain ⟨r, p', h', e, r0, r1, _, hc'⟩ := l01Below_f b p h 10000 hc
    obtain ⟨ps, hp, hp2⟩ := DrawPlaces_l0 b d (l ++ [r]) (i + 1) p' h' hc' (by simp; omega) (by omega) (fun x hm => by
      rcases List.mem_append.1 hm with hm | hm
      · exact hx x hm
      · rw [List.mem_singleton.1 hm]
        have := r1 (by omega)
        omega)
    refine ⟨ps, ?_, hp2⟩
    refine Ev.suc ?_
    simp only [spec_DrawPlaces.l0, e, Option.bind_some]
    refine Ev.ite_pos (by omega) (Ev.ite_pos (by omega) ?_)
    rw [w64 (by omega) (by omega)]
    exact hp
theorem DrawPlaces_f (b : List Int) (hb : b.length ≤ 140737488351232) : ∃ ps, Ev (fun k => spec_DrawPlaces.f k b) ps ∧ ps.length = 12 ∧ ∀ i, 0 ≤ i → i < 12 → 0 ≤ rd ps i ∧ rd ps i ≤ 9999 := by
  obtain ⟨h', hn⟩ := l01New_f b hb
  obtain ⟨ps, hp, hl, hx⟩ := DrawPlaces_l0 b 12 [] 0 0 h' (l01New_ok b hb) (by simp) (by omega) (fun x hx => by cases hx)
  refine ⟨ps, ?_, hl, fun i h0 h1 => hx _ ?_⟩
  · unfold spec_DrawPlaces.f
    exact Ev.bind hn hp
  · unfold rd
    rw [List.getD_eq_getElem?_getD, List.getElem?_eq_getElem (by omega)]
    exact List.getElem_mem _

/-! ### in -/
theorem l01In_f (a b c : Int) : spec_l01In.f a b c = some (decide (b ≤ a ∧ a ≤ c)) := by
  unfold spec_l01In.f
  by_cases h : a ≥ b
  · rw [if_pos h]
    simp [show b ≤ a from h]
  · rw [if_neg h]
    simp [show ¬ b ≤ a from h]

/-! ### inside -/
theorem inside_f (a b c : Int) : impl_inside.f a b c = some (decide (b ≤ a ∧ a ≤ c)) := by
  unfold impl_inside.f
  by_cases h : b ≤ a
  · rw [if_pos h]
    simp [h]
  · rw [if_neg h]
    simp [h]

/-! ### isRing -/
theorem isRing_f (n a b : Int) : Ev (fun k => impl_isRing.f k n [a, b]) (decide (2 ≤ n ∧ n ≤ 12 ∧ 0 ≤ a ∧ a ≤ wrap64 (n - 1) ∧ 0 ≤ b ∧ b ≤ wrap64 (n - 1))) := by
  unfold impl_isRing.f
  refine Ev.suc ?_
  simp only [impl_isRing.l0, rd, inside_f, Option.bind_some]
  refine Ev.ite_pos (by simp) ?_
  refine Ev.ite_pos (by simp) ?_
  refine Ev.ite_pos (by simp) ?_
  simp only [show ([a, b] : List Int).getD (0 : Int).toNat 0 = a from rfl, decide_eq_true_eq]
  refine Ev.ite (fun ha => ?_) (fun ha => Ev.val ?_)
  · rw [show wrap64 (0 + 1) = 1 from w64 (x := 0 + 1) (by decide) (by decide)]
    refine Ev.suc ?_
    simp only [impl_isRing.l0, rd, inside_f, Option.bind_some]
    refine Ev.ite_pos (by simp) ?_
    refine Ev.ite_pos (by simp) ?_
    refine Ev.ite_pos (by simp) ?_
    simp only [show ([a, b] : List Int).getD (1 : Int).toNat 0 = b from rfl, decide_eq_true_eq]
    refine Ev.ite (fun hb => ?_) (fun hb => Ev.val ?_)
    · rw [show wrap64 (1 + 1) = 2 from w64 (x := 1 + 1) (by decide) (by decide)]
      refine Ev.suc ?_
      simp only [impl_isRing.l0, inside_f, Option.bind_some]
      refine Ev.ite_neg (by simp) ?_
      refine Ev.val ?_
      rw [decide_eq_decide]
      constructor
      · intro h
        exact ⟨h.1, h.2, ha.1, ha.2, hb.1, hb.2⟩
      · intro h
        exact ⟨h.1, h.2.1⟩
    · symm
      rw [decide_eq_false_iff_not]
      intro h
      exact hb ⟨h.2.2.2.2.1, h.2.2.2.2.2⟩
  · symm
    rw [decide_eq_false_iff_not]
    intro h
    exact ha ⟨h.2.2.1, h.2.2.2.1⟩

/-! ### HopsBetween -/
theorem l13Ok_f (n a b : Int) : spec_l13Ok.f n a b = some (decide (2 ≤ n ∧ n ≤ 12 ∧ 0 ≤ a ∧ a ≤ wrap64 (n - 1) ∧ 0 ≤ b ∧ b ≤ wrap64 (n - 1))) := by
  unfold spec_l13Ok.f
  simp only [l01In_f, Option.bind_some, decide_eq_true_eq]
  split
  · split
    · rename_i h1 h2
      simp only [Option.bind_some, Option.some.injEq, decide_eq_decide]
      exact ⟨fun h => ⟨h1.1, h1.2, h2.1, h2.2, h.1, h.2⟩, fun h => ⟨h.2.2.2.2.1, h.2.2.2.2.2⟩⟩
    · rename_i h1 h2
      simp only [Option.some.injEq]
      symm
      rw [decide_eq_false_iff_not]
      exact fun h => h2 ⟨h.2.2.1, h.2.2.2.1⟩
  · rename_i h1
    simp only [Option.some.injEq]
    symm
    rw [decide_eq_false_iff_not]
    exact fun h => h1 ⟨h.1, h.2.1⟩
abbrev ringOk (n a b : Int) : Prop := 2 ≤ n ∧ n ≤ 12 ∧ 0 ≤ a ∧ a ≤ wrap64 (n - 1) ∧ 0 ≤ b ∧ b ≤ wrap64 (n - 1)
def hopsR (n a b : Int) : Int := if ringOk n a b then Int.tmod (wrap64 ((wrap64 (b - a)) + n)) n else -1
theorem HopsBetween_s (n a b : Int) : spec_HopsBetween.f n a b = some (hopsR n a b) := by
  unfold spec_HopsBetween.f hopsR
  simp only [l13Ok_f, Option.bind_some, decide_eq_true_eq, ringOk]
  split
  · rename_i h
    rw [if_neg (by omega)]
  · rfl
theorem HopsBetween_i (n a b : Int) : Ev (fun k => impl_HopsBetween.f k n a b) (hopsR n a b) := by
  unfold impl_HopsBetween.f hopsR
  refine Ev.bind (isRing_f n a b) ?_
  simp only [decide_eq_true_eq, ringOk]
  refine Ev.ite (fun h => ?_) (fun h => ?_)
  · refine Ev.ite_neg (by omega) (Ev.val ?_)
    rw [if_pos h]
  · refine Ev.val ?_
    rw [if_neg h]

/-! ### RingHops_i -/
def hopAt (n a : Int) (dl : Bool) (i : Nat) : S70 := ⟨(a + i) % n, if dl = true ∧ n ≤ a + i then 1 else 0⟩
def hopsL (n a b : Int) (dl : Bool) : List S70 := if ringOk n a b then (List.range ((b - a + n) % n).toNat).map (hopAt n a dl) else []
theorem hops_arith (n a b : Int) (hn : 2 ≤ n) (ha : 0 ≤ a ∧ a < n) (hb : 0 ≤ b ∧ b < n) : (b - a + n) % n = if a ≤ b then b - a else b - a + n := by
  split
  · rw [Int.add_emod_right]
    exact Int.emod_eq_of_lt (by omega) (by omega)
  · exact Int.emod_eq_of_lt (by omega) (by omega)
theorem mod_wrap (n x : Int) (hn : 0 < n) (h0 : 0 ≤ x) (h1 : x < 2 * n) : x % n = if x < n then x else x - n := by
  split
  · exact Int.emod_eq_of_lt h0 (by omega)
  · rw [← Int.sub_emod_right]
    exact Int.emod_eq_of_lt (by omega) (by omega)
theorem ringOk_b {n a b : Int} (h : ringOk n a b) : 2 ≤ n ∧ n ≤ 12 ∧ 0 ≤ a ∧ a < n ∧ 0 ≤ b ∧ b < n := by
  obtain ⟨h1, h2, h3, h4, h5, h6⟩ := h
  rw [w64 (by omega) (by omega)] at h4 h6
  omega
theorem hop_step (n x : Int) (hn : 2 ≤ n ∧ n ≤ 12) (hx : 0 ≤ x ∧ x < n) : Int.tmod (wrap64 (x + 1)) n = (x + 1) % n := by
  rw [w64 (by omega) (by omega), Int.tmod_eq_emod_of_nonneg (by omega)]
theorem RingHops_i_l0 (n a b : Int) (dl : Bool) (hn : 2 ≤ n ∧ n ≤ 12) (ha : 0 ≤ a ∧ a < n) (hb : 0 ≤ b ∧ b < n) : ∀ (d i : Nat), i + d = ((b - a + n) % n).toNat →
    Ev (fun k => impl_RingHops.l0 k n b dl ((List.range i).map (hopAt n a dl)) (if dl = true ∧ n ≤ a + i then 1 else 0) ((a + i) % n)) ((List.range ((b - a + n) % n).toNat).map (hopAt n a dl))
  | 0, i, h => by
    refine Ev.suc ?_
    simp only [impl_RingHops.l0]
    rw [hops_arith n a b hn.1 ha hb] at h ⊢
    refine Ev.ite_pos ?_ (Ev.val ?_)
    · rw [mod_wrap n (a + i) (by omega) (by omega) (by split at h <;> omega)]
      split at h <;> split <;> omega
    · rw [← h]
      rfl
  | d + 1, i, h => by
    have hd := hops_arith n a b hn.1 ha hb
    have hlt : ((b - a + n) % n).toNat < 12 := by rw [hd]; split <;> omega
    have hm := mod_wrap n (a + i) (by omega) (by omega) (by omega)
    have ih := RingHops_i_l0 n a b dl hn ha hb d (i + 1) (by omega)
    have hs : (List.range i).map (hopAt n a dl) ++ [(⟨(a + i) % n, if dl = true ∧ n ≤ a + i then 1 else 0⟩ : S70)] = (List.range (i + 1)).map (hopAt n a dl) := by
      rw [List.range_succ, List.map_append]
      rfl
    have hst := hop_step n ((a + i) % n) hn (by rw [hm]; split <;> omega)
    have hnext : ((a + i) % n + 1) % n = (a + ((i + 1 : Nat) : Int)) % n := by
      rw [Int.emod_add_emod]
      congr 1
      omega
    have hne : ¬ (a + i) % n = b := by
      rw [hm]
      rw [hd] at h
      split at h <;> split <;> omega
    refine Ev.suc ?_
    simp only [impl_RingHops.l0]
    refine Ev.ite_neg hne (Ev.ite_pos (by simp; omega) (Ev.bindS rfl ?_))
    rw [hs, hst, hnext, w64 (x := n - 1) (by omega) (by omega)]
    cases dl with
    | false =>
      refine Ev.ite_neg (by simp) (Ev.ite_neg (by omega) ?_)
      simpa using ih
    | true =>
      refine Ev.ite_pos rfl ?_
      refine Ev.ite (fun h9 => Ev.ite_neg (by omega) ?_) (fun h9 => Ev.ite_neg (by omega) ?_)
      · rw [if_pos ⟨rfl, by rw [hm] at h9; split at h9 <;> omega⟩] at ih
        exact ih
      · have e : (if true = true ∧ n ≤ a + ((i + 1 : Nat) : Int) then (1 : Int) else 0) = (if true = true ∧ n ≤ a + (i : Int) then 1 else 0) := by
          rw [hm] at h9
          simp only [true_and]
          split at h9 <;> split <;> split <;> omega
        rw [e] at ih
        exact ih
theorem RingHops_i (n a b : Int) (dl : Bool) : Ev (fun k => impl_RingHops.f k n a b dl) (hopsL n a b dl) := by
  unfold impl_RingHops.f hopsL
  refine Ev.bindS rfl (Ev.bind (isRing_f n a b) ?_)
  simp only [decide_eq_true_eq]
  refine Ev.ite (fun h => ?_) (fun h => Ev.val ?_)
  · have hb := ringOk_b (n := n) (a := a) (b := b) h
    rw [if_pos (show ringOk n a b from h)]
    have z := RingHops_i_l0 n a b dl ⟨hb.1, hb.2.1⟩ ⟨hb.2.2.1, hb.2.2.2.1⟩ ⟨hb.2.2.2.2.1, hb.2.2.2.2.2⟩ ((b - a + n) % n).toNat 0 (by omega)
    have e1 : (a + ((0 : Nat) : Int)) % n = a := by
      rw [Int.emod_eq_of_lt] <;> omega
    have e2 : (if dl = true ∧ n ≤ a + ((0 : Nat) : Int) then (1 : Int) else 0) = 0 := by
      rw [if_neg]
      omega
    rw [e1, e2] at z
    exact z
  · rw [if_neg (show ¬ ringOk n a b from h)]

theorem tm_rng (x n : Int) (hx : 0 ≤ x) (hn : 0 < n) : 0 ≤ Int.tmod x n ∧ Int.tmod x n < n := by
  rw [Int.tmod_eq_emod_of_nonneg hx]
  exact ⟨Int.emod_nonneg _ (by omega), Int.emod_lt_of_pos _ hn⟩
theorem rd_hops (n a : Int) (dl : Bool) (d i : Nat) (h : i < d) : rd_T70 ((List.range d).map (hopAt n a dl)) (i : Int) = hopAt n a dl i := by
  unfold rd_T70
  rw [List.getD_eq_getElem?_getD]
  simp [h]
theorem law_l0 (n a : Int) (hn : 2 ≤ n ∧ n ≤ 12) (ha : 0 ≤ a ∧ a < n) (d : Nat) (hd : d < 12) : ∀ (e i : Nat), i + e = d →
    Ev (fun k => laws_FnHops.l0 k n a ((List.range d).map (hopAt n a true)) ((List.range d).map (hopAt n a false)) (i : Int)) true
  | 0, i, h => by
    refine Ev.suc ?_
    simp only [laws_FnHops.l0]
    exact Ev.ite_neg (by simp; omega) (Ev.now _)
  | e + 1, i, h => by
    have ih := law_l0 n a hn ha d hd e (i + 1) (by omega)
    have hi : i < d := by omega
    have hT := rd_hops n a true d i hi
    have hF := rd_hops n a false d i hi
    have hw : wrap64 ((i : Int) + 1) = ((i + 1 : Nat) : Int) := by rw [w64 (by omega) (by omega)]; omega
    have ha2 : wrap64 (a + i) = a + i := w64 (by omega) (by omega)
    have ht : Int.tmod (a + i) n = (a + i) % n := Int.tmod_eq_emod_of_nonneg (by omega)
    refine Ev.suc ?_
    simp only [laws_FnHops.l0, hT, hF, ha2, ht]
    refine Ev.ite_pos (by simp; omega) (Ev.ite_pos (by omega) (Ev.ite_neg (by omega) (Ev.ite_pos rfl (Ev.ite_pos (by simp; omega) (Ev.ite_pos rfl ?_)))))
    refine Ev.suc ?_
    simp only [laws_FnHops.j2, hT, hF, ha2, hw]
    refine Ev.ite_neg (by simp [hopAt]) (Ev.ite_pos (by omega) (Ev.ite_pos (by simp; omega) (Ev.ite_neg ?_ ih)))
    simp only [hopAt]
    by_cases h9 : n ≤ a + i <;> simp [h9]
theorem FnHops : FnHops_says := by
  intro l hl
  refine Ev.rounds ?_
  unfold laws_FnHops.f
  simp only [big_f, Option.bind_some]
  refine Ev.ite (fun _ => Ev.now _) (fun hbig => ?_)
  simp only [decide_eq_true_eq] at hbig
  obtain ⟨ps, hp, hn, hr⟩ := DrawPlaces_f l (by omega)
  refine Ev.bind hp ?_
  have h0 := tm_rng (rd ps 0) 11 (hr 0 (by omega) (by omega)).1 (by omega)
  have hn2 : wrap64 (2 + Int.tmod (rd ps 0) 11) = 2 + Int.tmod (rd ps 0) 11 := w64 (by omega) (by omega)
  have h1 := tm_rng (rd ps 1) (2 + Int.tmod (rd ps 0) 11) (hr 1 (by omega) (by omega)).1 (by omega)
  have h2 := tm_rng (rd ps 2) (2 + Int.tmod (rd ps 0) 11) (hr 2 (by omega) (by omega)).1 (by omega)
  have hnn : 2 ≤ 2 + Int.tmod (rd ps 0) 11 ∧ 2 + Int.tmod (rd ps 0) 11 ≤ 12 := by omega
  simp only [hn2]
  generalize Int.tmod (rd ps 1) (2 + Int.tmod (rd ps 0) 11) = a at h1 ⊢
  generalize Int.tmod (rd ps 2) (2 + Int.tmod (rd ps 0) 11) = b at h2 ⊢
  generalize 2 + Int.tmod (rd ps 0) 11 = n at *
  have ok : ringOk n a b := by
    unfold ringOk
    rw [w64 (by omega) (by omega)]
    omega
  have hd := hops_arith n a b hnn.1 h1 h2
  have hR : hopsR n a b = (b - a + n) % n := by
    unfold hopsR
    rw [if_pos ok, w64 (x := b - a) (by omega) (by omega), w64 (by omega) (by omega), Int.tmod_eq_emod_of_nonneg (by omega)]
  have hlen : ∀ dl, ((hopsL n a b dl).length : Int) = hopsR n a b := fun dl => by
    unfold hopsL
    rw [if_pos ok, hR, List.length_map, List.length_range, hd]
    split <;> omega
  refine Ev.ite_pos (by omega) (Ev.ite_pos (by omega) (Ev.ite_neg (by omega) (Ev.ite_pos (by omega) ?_)))
  refine Ev.bind (RingHops_i n a b true) (Ev.bind (RingHops_i n a b false) (Ev.bind (HopsBetween_i n a b) (Ev.ite_pos (hlen true) (Ev.bindS (HopsBetween_s n a b) (Ev.ite_pos (hlen true) ?_)))))
  refine Ev.suc ?_
  simp only [laws_FnHops.j0]
  refine Ev.ite_neg (by simp [hlen]) ?_
  unfold hopsL
  rw [if_pos ok, if_pos ok]
  exact law_l0 n a hnn h1 _ (by rw [hd]; split <;> omega) _ 0 (Nat.zero_add _)

end Go.Proofs.Ytffkmajlelhiaaa.Pure
