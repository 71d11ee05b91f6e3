/- The plain statement of the law FnRings: a ring with a dateline is safe, one without is safe only if it has two nodes. No condition. -/
import Derived.Test.YtimdefbpoddoaaaPFnRingsx
import Derived.Test.YtimdefbpoddoaaaU
import Derived.Test.YtimdefbpoddoaaaSaysFnRings
namespace Go.Proofs.Ytimdefbpoddoaaa.Pure
open Go.RowKit Go.Proofs.Ytimdefbpoddoaaa.PFnRings Go.Proofs.YtimdefbpoddoaaaW.PrintWords Go.Proofs.YtimdefbpoddoaaaW.PrintLast Go.Proofs.YtimdefbpoddoaaaW.PrintMore Go.Proofs.Ytimdefbpoddoaaa.U
set_option linter.unusedVariables false
set_option linter.unusedSimpArgs false

/-! ### big -/
theorem big_f (b : List Int) : laws_big.f b = some (decide ((b.length : Int) > 1048576)) := rfl

/-! ### cur -/
def CurOk (b : List Int) (i : Int) : Prop := 0 ≤ i ∧ i ≤ (b.length : Int) ∧ b.length ≤ 140737488351232
theorem l01New_l0 (b : List Int) (hb : b.length ≤ 140737488351232) : ∀ (d : Nat) (i h : Int), 0 ≤ i → i ≤ (b.length : Int) → (b.length : Int) - i = d → ∃ h', Ev (fun k => spec_l01New.l0 k b h i) (b, 0, h')
  | 0, i, h, h0, h1, hd => ⟨h, by
    refine Ev.suc ?_
    simp only [spec_l01New.l0]
    exact Ev.ite_neg (by omega) (Ev.now _)⟩
  | d + 1, i, h, h0, h1, hd => by
    by_cases h4 : i < 4000
    · obtain ⟨h', hh⟩ := l01New_l0 b hb d (i + 1) (Go.bits .and .i64 (wrap64 ((wrap64 ((wrap64 (h * 131)) + (wrap64 (rd b i)))) + 7)) 1073741823) (by omega) (by omega) (by omega)
      refine ⟨h', ?_⟩
      refine Ev.suc ?_
      simp only [spec_l01New.l0]
      refine Ev.ite_pos (by omega) (Ev.ite_pos h4 (Ev.ite_pos h0 ?_))
      rw [w64 (x := i + 1) (by omega) (by omega)]
      exact hh
    · refine ⟨h, ?_⟩
      refine Ev.suc ?_
      simp only [spec_l01New.l0]
      exact Ev.ite_pos (by omega) (Ev.ite_neg h4 (Ev.now _))
theorem l01New_f (b : List Int) (hb : b.length ≤ 140737488351232) : ∃ h', Ev (fun k => spec_l01New.f k b) (b, 0, h') := l01New_l0 b hb b.length 0 _ (by omega) (by omega) (by omega)
theorem l01New_ok (b : List Int) (hb : b.length ≤ 140737488351232) : CurOk b 0 := ⟨by omega, by omega, hb⟩
theorem l01Byte_f (b : List Int) (i h : Int) (hc : CurOk b i) : ∃ r i' h', spec_l01Byte.f b i h = some (r, i', h') ∧ 0 ≤ r ∧ r ≤ 255 ∧ CurOk b i' := by
  obtain ⟨h0, h1, h2⟩ := hc
  unfold spec_l01Byte.f
  by_cases hl : i < (b.length : Int)
  · rw [if_pos hl, if_pos h0]
    refine ⟨_, _, _, rfl, (and255 _).1, (and255 _).2, ?_⟩
    rw [w64 (by omega) (by omega)]
    exact ⟨by omega, by omega, h2⟩
  · rw [if_neg hl]
    exact ⟨_, _, _, rfl, (and255 _).1, (and255 _).2, h0, h1, h2⟩
theorem l01Below_f (b : List Int) (i h n : Int) (hc : CurOk b i) : ∃ r i' h', spec_l01Below.f b i h n = some (r, i', h') ∧ 0 ≤ r ∧ (0 < n → r < n) ∧ (n ≤ 0 → r = 0) ∧ CurOk b i' := by
  unfold spec_l01Below.f
  by_cases hn : n ≤ 0
  · rw [if_pos hn]
    exact ⟨0, i, h, rfl, by omega, by omega, fun _ => rfl, hc⟩
  · rw [if_neg hn]
    have tm : ∀ x : Int, 0 ≤ x → 0 ≤ Int.tmod x n ∧ Int.tmod x n < n := fun x hx => by
      rw [Int.tmod_eq_emod_of_nonneg hx]
      exact ⟨Int.emod_nonneg _ (by omega), Int.emod_lt_of_pos _ (by omega)⟩
    by_cases h2 : n ≤ 256
    · obtain ⟨r, i', h', e, r0, r1, hc'⟩ := l01Byte_f b i h hc
      rw [if_pos h2, e]
      simp only [Option.bind_some]
      rw [if_neg (by omega)]
      exact ⟨_, _, _, rfl, (tm r r0).1, fun _ => (tm r r0).2, fun h => absurd h hn, hc'⟩
    · rw [if_neg h2]
      obtain ⟨x, i1, h1, e1, x0, x1, hc1⟩ := l01Byte_f b i h hc
      obtain ⟨y, i2, h2', e2, y0, y1, hc2⟩ := l01Byte_f b i1 h1 hc1
      obtain ⟨z, i3, h3, e3, z0, z1, hc3⟩ := l01Byte_f b i2 h2' hc2
      obtain ⟨w, i4, h4, e4, w0, w1, hc4⟩ := l01Byte_f b i3 h3 hc3
      simp only [e1, e2, e3, e4, Option.bind_some]
      rw [if_neg (by omega)]
      have hs : wrap64 ((wrap64 ((wrap64 ((wrap64 (x * 16777216)) + (wrap64 (y * 65536)))) + (wrap64 (z * 256)))) + w) = x * 16777216 + y * 65536 + z * 256 + w := by
        rw [w64 (x := x * 16777216) (by omega) (by omega), w64 (x := y * 65536) (by omega) (by omega), w64 (x := z * 256) (by omega) (by omega)]
        rw [w64 (x := x * 16777216 + y * 65536) (by omega) (by omega)]
        rw [w64 (x := x * 16777216 + y * 65536 + z * 256) (by omega) (by omega)]
        exact w64 (by omega) (by omega)
      rw [hs]
      exact ⟨_, _, _, rfl, (tm _ (by omega)).1, fun _ => (tm _ (by omega)).2, fun h => absurd h hn, hc4⟩

/-! ### DrawPlaces -/
theorem DrawPlaces_l0 (b : List Int) : ∀ (d : Nat) (l : List Int) (i p h : Int), CurOk b p → (l.length : Int) = i → (12 : Int) - i = d → (∀ x ∈ l, 0 ≤ x ∧ x ≤ 9999) →
    ∃ ps, Ev (fun k => spec_DrawPlaces.l0 k l i b p h) ps ∧ ps.length = 12 ∧ ∀ x ∈ ps, 0 ≤ x ∧ x ≤ 9999
  | 0, l, i, p, h, hc, hl, hd, hx => ⟨l, by
    refine Ev.suc ?_
    simp only [spec_DrawPlaces.l0]
    exact Ev.ite_neg (by omega) (Ev.now _), by omega, hx⟩
  | d + 1, l, i, p, h, hc, hl, hd, hx => by
    obtain ⟨r, p', h', e, r0, r1, _, hc'⟩ := l01Below_f b p h 10000 hc
    obtain ⟨ps, hp, hp2⟩ := DrawPlaces_l0 b d (l ++ [r]) (i + 1) p' h' hc' (by simp; omega) (by omega) (fun x hm => by
      rcases List.mem_append.1 hm with hm | hm
      · exact hx x hm
      · rw [List.mem_singleton.1 hm]
        have := r1 (by omega)
        omega)
    refine ⟨ps, ?_, hp2⟩
    refine Ev.suc ?_
    simp only [spec_DrawPlaces.l0, e, Option.bind_some]
    refine Ev.ite_pos (by omega) (Ev.ite_pos (by omega) ?_)
    rw [w64 (by omega) (by omega)]
    exact hp
theorem DrawPlaces_f (b : List Int) (hb : b.length ≤ 140737488351232) : ∃ ps, Ev (fun k => spec_DrawPlaces.f k b) ps ∧ ps.length = 12 ∧ ∀ i, 0 ≤ i → i < 12 → 0 ≤ rd ps i ∧ rd ps i ≤ 9999 := by
  obtain ⟨h', hn⟩ := l01New_f b hb
  obtain ⟨ps, hp, hl, hx⟩ := DrawPlaces_l0 b 12 [] 0 0 h' (l01New_ok b hb) (by simp) (by omega) (fun x hx => by cases hx)
  refine ⟨ps, ?_, hl, fun i h0 h1 => hx _ ?_⟩
  · unfold spec_DrawPlaces.f
    exact Ev.bind hn hp
  · unfold rd
    rw [List.getD_eq_getElem?_getD, List.getElem?_eq_getElem (by omega)]
    exact List.getElem_mem _

/-! ### ringR -/
abbrev ringOk (n a b : Int) : Prop := 2 ≤ n ∧ n ≤ 12 ∧ 0 ≤ a ∧ a ≤ wrap64 (n - 1) ∧ 0 ≤ b ∧ b ≤ wrap64 (n - 1)

/-! ### inside -/
theorem inside_f (a b c : Int) : impl_inside.f a b c = some (decide (b ≤ a ∧ a ≤ c)) := by
  unfold impl_inside.f
  by_cases h : b ≤ a
  · rw [if_pos h]
    simp [h]
  · rw [if_neg h]
    simp [h]

/-! ### isRing -/
theorem isRing_f (n a b : Int) : Ev (fun k => impl_isRing.f k n [a, b]) (decide (2 ≤ n ∧ n ≤ 12 ∧ 0 ≤ a ∧ a ≤ wrap64 (n - 1) ∧ 0 ≤ b ∧ b ≤ wrap64 (n - 1))) := by
  unfold impl_isRing.f
  refine Ev.suc ?_
  simp only [impl_isRing.l0, rd, inside_f, Option.bind_some]
  refine Ev.ite_pos (by simp) ?_
  refine Ev.ite_pos (by simp) ?_
  refine Ev.ite_pos (by simp) ?_
  simp only [show ([a, b] : List Int).getD (0 : Int).toNat 0 = a from rfl, decide_eq_true_eq]
  refine Ev.ite (fun ha => ?_) (fun ha => Ev.val ?_)
  · rw [show wrap64 (0 + 1) = 1 from w64 (x := 0 + 1) (by decide) (by decide)]
    refine Ev.suc ?_
    simp only [impl_isRing.l0, rd, inside_f, Option.bind_some]
    refine Ev.ite_pos (by simp) ?_
    refine Ev.ite_pos (by simp) ?_
    refine Ev.ite_pos (by simp) ?_
    simp only [show ([a, b] : List Int).getD (1 : Int).toNat 0 = b from rfl, decide_eq_true_eq]
    refine Ev.ite (fun hb => ?_) (fun hb => Ev.val ?_)
    · rw [show wrap64 (1 + 1) = 2 from w64 (x := 1 + 1) (by decide) (by decide)]
      refine Ev.suc ?_
      simp only [impl_isRing.l0, inside_f, Option.bind_some]
      refine Ev.ite_neg (by simp) ?_
      refine Ev.val ?_
      rw [decide_eq_decide]
      constructor
      · intro h
        exact ⟨h.1, h.2, ha.1, ha.2, hb.1, hb.2⟩
      · intro h
        exact ⟨h.1, h.2.1⟩
    · symm
      rw [decide_eq_false_iff_not]
      intro h
      exact hb ⟨h.2.2.2.2.1, h.2.2.2.2.2⟩
  · symm
    rw [decide_eq_false_iff_not]
    intro h
    exact ha ⟨h.2.2.1, h.2.2.2.1⟩

/-! ### RingHops_i -/
def hopAt (n a : Int) (dl : Bool) (i : Nat) : S92 := ⟨(a + i) % n, if dl = true ∧ n ≤ a + i then 1 else 0⟩
def hopsL (n a b : Int) (dl : Bool) : List S92 := if ringOk n a b then (List.range ((b - a + n) % n).toNat).map (hopAt n a dl) else []
theorem hops_arith (n a b : Int) (hn : 2 ≤ n) (ha : 0 ≤ a ∧ a < n) (hb : 0 ≤ b ∧ b < n) : (b - a + n) % n = if a ≤ b then b - a else b - a + n := by
  split
  · rw [Int.add_emod_right]
    exact Int.emod_eq_of_lt (by omega) (by omega)
  · exact Int.emod_eq_of_lt (by omega) (by omega)
theorem mod_wrap (n x : Int) (hn : 0 < n) (h0 : 0 ≤ x) (h1 : x < 2 * n) : x % n = if x < n then x else x - n := by
  split
  · exact Int.emod_eq_of_lt h0 (by omega)
  · rw [← Int.sub_emod_right]
    exact Int.emod_eq_of_lt (by omega) (by omega)
theorem ringOk_b {n a b : Int} (h : ringOk n a b) : 2 ≤ n ∧ n ≤ 12 ∧ 0 ≤ a ∧ a < n ∧ 0 ≤ b ∧ b < n := by
  obtain ⟨h1, h2, h3, h4, h5, h6⟩ := h
  rw [w64 (by omega) (by omega)] at h4 h6
  omega
theorem hop_step (n x : Int) (hn : 2 ≤ n ∧ n ≤ 12) (hx : 0 ≤ x ∧ x < n) : Int.tmod (wrap64 (x + 1)) n = (x + 1) % n := by
  rw [w64 (by omega) (by omega), Int.tmod_eq_emod_of_nonneg (by omega)]
theorem RingHops_i_l0 (n a b : Int) (dl : Bool) (hn : 2 ≤ n ∧ n ≤ 12) (ha : 0 ≤ a ∧ a < n) (hb : 0 ≤ b ∧ b < n) : ∀ (d i : Nat), i + d = ((b - a + n) % n).toNat →
    Ev (fun k => impl_RingHops.l0 k n b dl ((List.range i).map (hopAt n a dl)) (if dl = true ∧ n ≤ a + i then 1 else 0) ((a + i) % n)) ((List.range ((b - a + n) % n).toNat).map (hopAt n a dl))
  | 0, i, h => by
    refine Ev.suc ?_
    simp only [impl_RingHops.l0]
    rw [hops_arith n a b hn.1 ha hb] at h ⊢
    refine Ev.ite_pos ?_ (Ev.val ?_)
    · rw [mod_wrap n (a + i) (by omega) (by omega) (by split at h <;> omega)]
      split at h <;> split <;> omega
    · rw [← h]
      rfl
  | d + 1, i, h => by
    have hd := hops_arith n a b hn.1 ha hb
    have hlt : ((b - a + n) % n).toNat < 12 := by rw [hd]; split <;> omega
    have hm := mod_wrap n (a + i) (by omega) (by omega) (by omega)
    have ih := RingHops_i_l0 n a b dl hn ha hb d (i + 1) (by omega)
    have hs : (List.range i).map (hopAt n a dl) ++ [(⟨(a + i) % n, if dl = true ∧ n ≤ a + i then 1 else 0⟩ : S92)] = (List.range (i + 1)).map (hopAt n a dl) := by
      rw [List.range_succ, List.map_append]
      rfl
    have hst := hop_step n ((a + i) % n) hn (by rw [hm]; split <;> omega)
    have hnext : ((a + i) % n + 1) % n = (a + ((i + 1 : Nat) : Int)) % n := by
      rw [Int.emod_add_emod]
      congr 1
      omega
    have hne : ¬ (a + i) % n = b := by
      rw [hm]
      rw [hd] at h
      split at h <;> split <;> omega
    refine Ev.suc ?_
    simp only [impl_RingHops.l0]
    refine Ev.ite_neg hne (Ev.ite_pos (by simp; omega) (Ev.bindS rfl ?_))
    rw [hs, hst, hnext, w64 (x := n - 1) (by omega) (by omega)]
    cases dl with
    | false =>
      refine Ev.ite_neg (by simp) (Ev.ite_neg (by omega) ?_)
      simpa using ih
    | true =>
      refine Ev.ite_pos rfl ?_
      refine Ev.ite (fun h9 => Ev.ite_neg (by omega) ?_) (fun h9 => Ev.ite_neg (by omega) ?_)
      · rw [if_pos ⟨rfl, by rw [hm] at h9; split at h9 <;> omega⟩] at ih
        exact ih
      · have e : (if true = true ∧ n ≤ a + ((i + 1 : Nat) : Int) then (1 : Int) else 0) = (if true = true ∧ n ≤ a + (i : Int) then 1 else 0) := by
          rw [hm] at h9
          simp only [true_and]
          split at h9 <;> split <;> split <;> omega
        rw [e] at ih
        exact ih
theorem RingHops_i (n a b : Int) (dl : Bool) : Ev (fun k => impl_RingHops.f k n a b dl) (hopsL n a b dl) := by
  unfold impl_RingHops.f hopsL
  refine Ev.bindS rfl (Ev.bind (isRing_f n a b) ?_)
  simp only [decide_eq_true_eq]
  refine Ev.ite (fun h => ?_) (fun h => Ev.val ?_)
  · have hb := ringOk_b (n := n) (a := a) (b := b) h
    rw [if_pos (show ringOk n a b from h)]
    have z := RingHops_i_l0 n a b dl ⟨hb.1, hb.2.1⟩ ⟨hb.2.2.1, hb.2.2.2.1⟩ ⟨hb.2.2.2.2.1, hb.2.2.2.2.2⟩ ((b - a + n) % n).toNat 0 (by omega)
    have e1 : (a + ((0 : Nat) : Int)) % n = a := by
      rw [Int.emod_eq_of_lt] <;> omega
    have e2 : (if dl = true ∧ n ≤ a + ((0 : Nat) : Int) then (1 : Int) else 0) = 0 := by
      rw [if_neg]
      omega
    rw [e1, e2] at z
    exact z
  · rw [if_neg (show ¬ ringOk n a b from h)]
theorem hopsL_len (n a b : Int) (dl : Bool) : (hopsL n a b dl).length ≤ 12 := by
  unfold hopsL
  split
  · rename_i h
    have hb := ringOk_b h
    rw [List.length_map, List.length_range, hops_arith n a b hb.1 ⟨hb.2.2.1, hb.2.2.2.1⟩ ⟨hb.2.2.2.2.1, hb.2.2.2.2.2⟩]
    split <;> omega
  · simp

/-! ### rdDepend -/
theorem rdI_Depend (pre : List S94) (x : S94) (rest : List S94) : rd_T94 (pre ++ x :: rest) (pre.length : Int) = x := getD_mid pre x rest _

/-! ### dependD -/
abbrev dIn (x : S94) : Prop := (0 ≤ x.f0 ∧ x.f0 ≤ 127) ∧ (0 ≤ x.f1 ∧ x.f1 ≤ 127)
abbrev dLt (a b : S94) : Prop := a.f0 < b.f0 ∨ (a.f0 = b.f0 ∧ a.f1 < b.f1)
def dGo : S94 → List S94 → Bool
  | _, [] => true
  | y, x :: r => decide (dIn x) && (decide (dLt y x) && dGo x r)
/-- The list of depends is valid. -/
def dAll : List S94 → Bool
  | [] => true
  | x :: r => decide (dIn x) && dGo x r
theorem dGo_cons (y x : S94) (r : List S94) : dGo y (x :: r) = (decide (dIn x) && (decide (dLt y x) && dGo x r)) := rfl
theorem dAll_cons (x : S94) (r : List S94) : dAll (x :: r) = (decide (dIn x) && dGo x r) := rfl
theorem prev_rd (p : List S94) (y x : S94) (rest : List S94) (hl : (p ++ [y]).length + rest.length < 1152921504606846976) : wrap64 (((p ++ [y]).length : Int) - 1) = (p.length : Int) ∧ rd_T94 (p ++ [y] ++ x :: rest) (p.length : Int) = y := by
  refine ⟨?_, ?_⟩
  · simp only [List.length_append, List.length_cons, List.length_nil] at hl ⊢
    rw [w64 (by omega) (by omega)]
    omega
  · rw [List.append_assoc]
    exact rdI_Depend p y (x :: rest)

/-! ### dOrd -/
theorem dLt_trans {a b c : S94} (h : dLt a b) (k : dLt b c) : dLt a c := by
  unfold dLt at *
  omega
theorem dGo_iff : ∀ (r : List S94) (y : S94), dGo y r = true ↔ (∀ x ∈ r, dIn x) ∧ (y :: r).Pairwise dLt
  | [], y => by simp [dGo]
  | z :: r, y => by
    rw [dGo_cons, Bool.and_eq_true, Bool.and_eq_true, decide_eq_true_eq, decide_eq_true_eq, dGo_iff r z]
    constructor
    · rintro ⟨h1, h2, h3, h4⟩
      refine ⟨fun x hx => ?_, List.pairwise_cons.2 ⟨fun x hx => ?_, h4⟩⟩
      · rcases List.mem_cons.1 hx with rfl | hx
        · exact h1
        · exact h3 x hx
      · rcases List.mem_cons.1 hx with rfl | hx
        · exact h2
        · exact dLt_trans h2 ((List.pairwise_cons.1 h4).1 x hx)
    · rintro ⟨h1, h2⟩
      rw [List.pairwise_cons] at h2
      exact ⟨h1 z List.mem_cons_self, h2.1 z List.mem_cons_self, fun x hx => h1 x (List.mem_cons_of_mem _ hx), h2.2⟩
theorem dAll_iff : ∀ (l : List S94), dAll l = true ↔ (∀ x ∈ l, dIn x) ∧ l.Pairwise dLt
  | [] => by simp [dAll]
  | z :: r => by
    rw [dAll_cons, Bool.and_eq_true, decide_eq_true_eq, dGo_iff]
    constructor
    · rintro ⟨h1, h2, h3⟩
      refine ⟨fun x hx => ?_, h3⟩
      rcases List.mem_cons.1 hx with rfl | hx
      · exact h1
      · exact h2 x hx
    · rintro ⟨h1, h2⟩
      exact ⟨h1 z List.mem_cons_self, fun x hx => h1 x (List.mem_cons_of_mem _ hx), h2⟩
theorem rdD_at (l : List S94) (i : Nat) (h : i < l.length) : rd_T94 l (i : Int) = l[i] := by
  show l.getD (i : Int).toNat _ = _
  rw [Int.toNat_natCast, List.getD_eq_getElem?_getD, List.getElem?_eq_getElem h]
  rfl

/-! ### arr -/
theorem sdLe_trans (a b c : SD) (h : sdLe a b = true) (k : sdLe b c = true) : sdLe a c = true := by
  unfold sdLe at *
  rw [decide_eq_true_eq] at *
  omega
theorem sdLe_total (a b : SD) : (sdLe a b || sdLe b a) = true := by
  unfold sdLe
  rw [Bool.or_eq_true, decide_eq_true_eq, decide_eq_true_eq]
  omega
abbrev sdL (a b : SD) : Prop := a.1.val < b.1.val ∨ (a.1.val = b.1.val ∧ a.2.val < b.2.val)
theorem sdL_of {a b : SD} (h : sdLe a b = true) (hne : a ≠ b) : sdL a b := by
  unfold sdLe at h
  rw [decide_eq_true_eq] at h
  have : ¬ (a.1.val = b.1.val ∧ a.2.val = b.2.val) := fun e => hne (Prod.ext (Fin.ext e.1) (Fin.ext e.2))
  unfold sdL
  omega
theorem sdDd_mem : ∀ (l : List SD) (x : SD), x ∈ sdDd l ↔ x ∈ l
  | [], x => Iff.rfl
  | [a], x => Iff.rfl
  | a :: b :: r, x => by
    have ih := sdDd_mem (b :: r) x
    show (x ∈ if a = b then sdDd (b :: r) else a :: sdDd (b :: r)) ↔ x ∈ a :: b :: r
    by_cases h : a = b
    · rw [if_pos h, ih, h]
      simp
    · rw [if_neg h, List.mem_cons, ih, List.mem_cons (a := x) (b := a)]
theorem sdDd_len : ∀ (l : List SD), (sdDd l).length ≤ l.length
  | [] => Nat.le_refl _
  | [a] => Nat.le_refl _
  | a :: b :: r => by
    have ih := sdDd_len (b :: r)
    show (if a = b then sdDd (b :: r) else a :: sdDd (b :: r)).length ≤ (a :: b :: r).length
    split
    · simp only [List.length_cons] at *
      omega
    · simp only [List.length_cons] at *
      omega
theorem sdDd_sorted : ∀ (l : List SD), l.Pairwise (fun a b => sdLe a b = true) → (sdDd l).Pairwise sdL
  | [], _ => .nil
  | [a], _ => List.pairwise_singleton _ _
  | a :: b :: r, h => by
    have h1 := List.pairwise_cons.1 h
    have ih := sdDd_sorted (b :: r) h1.2
    show (if a = b then sdDd (b :: r) else a :: sdDd (b :: r)).Pairwise sdL
    by_cases e : a = b
    · rw [if_pos e]
      exact ih
    · rw [if_neg e]
      refine List.pairwise_cons.2 ⟨fun x hx => ?_, ih⟩
      have hx := (sdDd_mem (b :: r) x).1 hx
      have hab := sdL_of (h1.1 b List.mem_cons_self) e
      rcases List.mem_cons.1 hx with rfl | hx
      · exact hab
      · have hbx := (List.pairwise_cons.1 h1.2).1 x hx
        unfold sdLe at hbx
        rw [decide_eq_true_eq] at hbx
        unfold sdL at *
        omega
theorem sdIn_of {x : S94} (h : dIn x) : sdIn x = true := decide_eq_true h
theorem sdTo_in (x : SD) : dIn (sdTo x) := by
  have h0 := x.1.isLt
  have h1 := x.2.isLt
  show (0 ≤ (x.1.val : Int) ∧ (x.1.val : Int) ≤ 127) ∧ (0 ≤ (x.2.val : Int) ∧ (x.2.val : Int) ≤ 127)
  omega
theorem sdTo_of' {x : S94} (h : dIn x) : sdTo (sdOf x) = x := by
  have h : (0 ≤ x.f0 ∧ x.f0 ≤ 127) ∧ (0 ≤ x.f1 ∧ x.f1 ≤ 127) := h
  show (⟨((x.f0.toNat % 128 : Nat) : Int), ((x.f1.toNat % 128 : Nat) : Int)⟩ : S94) = x
  have e0 : ((x.f0.toNat % 128 : Nat) : Int) = x.f0 := by omega
  have e1 : ((x.f1.toNat % 128 : Nat) : Int) = x.f1 := by omega
  rw [e0, e1]
/-- What 'arranged' gives: the same dependencies, in order, each once. -/
theorem arr_i (l : List S94) (hd : ∀ x ∈ l, dIn x) (hl : l.length ≤ 1048576) : ∃ r, impl_arranged.f l = some r ∧ dAll r = true ∧ (∀ x, x ∈ r ↔ x ∈ l) ∧ r.length ≤ l.length := by
  have hp := List.mergeSort_perm (l.map sdOf) sdLe
  have hs := List.pairwise_mergeSort sdLe_trans sdLe_total (l.map sdOf)
  refine ⟨(sdDd ((l.map sdOf).mergeSort sdLe)).map sdTo, ?_, ?_, fun x => ?_, ?_⟩
  · unfold impl_arranged.f
    rw [if_pos ⟨List.all_eq_true.2 (fun x hx => sdIn_of (hd x hx)), by omega⟩]
  · refine (dAll_iff _).2 ⟨fun x hx => ?_, ?_⟩
    · obtain ⟨y, _, rfl⟩ := List.mem_map.1 hx
      exact sdTo_in y
    · rw [List.pairwise_map]
      refine (sdDd_sorted _ hs).imp fun {a b} h => ?_
      show (a.1.val : Int) < (b.1.val : Int) ∨ ((a.1.val : Int) = (b.1.val : Int) ∧ (a.2.val : Int) < (b.2.val : Int))
      unfold sdL at h
      omega
  · rw [List.mem_map]
    constructor
    · rintro ⟨y, hy, rfl⟩
      rw [sdDd_mem, hp.mem_iff, List.mem_map] at hy
      obtain ⟨z, hz, rfl⟩ := hy
      rw [sdTo_of' (hd z hz)]
      exact hz
    · intro hx
      exact ⟨sdOf x, by rw [sdDd_mem, hp.mem_iff]; exact List.mem_map.2 ⟨x, hx, rfl⟩, sdTo_of' (hd x hx)⟩
  · rw [List.length_map]
    have := sdDd_len ((l.map sdOf).mergeSort sdLe)
    rw [hp.length_eq, List.length_map] at this
    exact this
/-- Valid dependencies are told by their members. -/
theorem dAll_ext : ∀ (l m : List S94), dAll l = true → dAll m = true → (∀ x, x ∈ l ↔ x ∈ m) → l = m := by
  have irr : ∀ a : S94, ¬ dLt a a := fun a => by unfold dLt; omega
  have asy : ∀ a b : S94, dLt a b → dLt b a → False := fun a b h k => by unfold dLt at *; omega
  have key : ∀ (l m : List S94), l.Pairwise dLt → m.Pairwise dLt → (∀ x, x ∈ l ↔ x ∈ m) → l = m := by
    intro l
    induction l with
    | nil =>
      intro m _ _ h
      cases m with
      | nil => rfl
      | cons b m => exact absurd ((h b).2 List.mem_cons_self) List.not_mem_nil
    | cons a l ih =>
      intro m hl hm h
      cases m with
      | nil => exact absurd ((h a).1 List.mem_cons_self) List.not_mem_nil
      | cons b m =>
        have hl' := List.pairwise_cons.1 hl
        have hm' := List.pairwise_cons.1 hm
        have e : a = b := by
          rcases List.mem_cons.1 ((h a).1 List.mem_cons_self) with e | h1
          · exact e
          · rcases List.mem_cons.1 ((h b).2 List.mem_cons_self) with e | h2
            · exact e.symm
            · exact (asy a b (hl'.1 b h2) (hm'.1 a h1)).elim
        subst e
        rw [ih m hl'.2 hm'.2 (fun x => ?_)]
        have hx := h x
        rw [List.mem_cons, List.mem_cons] at hx
        constructor
        · intro h1
          rcases hx.1 (Or.inr h1) with rfl | h2
          · exact absurd (hl'.1 x h1) (irr x)
          · exact h2
        · intro h1
          rcases hx.2 (Or.inr h1) with rfl | h2
          · exact absurd (hm'.1 x h1) (irr x)
          · exact h2
  exact fun l m hl hm h => key l m ((dAll_iff l).1 hl).2 ((dAll_iff m).1 hm).2 h

/-! ### ringDep_i -/
def chH (h : S92) : Int := wrap64 ((wrap64 (h.f1 * 64)) + h.f0)
def ringAD (hs : List S92) (t : Nat) : S94 := ⟨chH (rd_T92 hs (t : Int)), chH (rd_T92 hs ((t + 1 : Nat) : Int))⟩
def ringA (hs : List S92) : List S94 := (List.range (hs.length - 1)).map (ringAD hs)
theorem ringA_len (hs : List S92) : (ringA hs).length = hs.length - 1 := by
  unfold ringA
  rw [List.length_map, List.length_range]
theorem hop_in (n a b : Int) (dl : Bool) : ∀ x ∈ hopsL n a b dl, (0 ≤ x.f0 ∧ x.f0 < 12) ∧ (0 ≤ x.f1 ∧ x.f1 ≤ 1) := by
  intro x hx
  unfold hopsL at hx
  split at hx
  · rename_i h
    have hb := ringOk_b h
    obtain ⟨i, _, rfl⟩ := List.mem_map.1 hx
    have h1 := Int.emod_nonneg (a + (i : Int)) (show n ≠ 0 by omega)
    have h2 := Int.emod_lt_of_pos (a + (i : Int)) (show 0 < n by omega)
    refine ⟨?_, ?_⟩
    · show 0 ≤ (a + (i : Int)) % n ∧ (a + (i : Int)) % n < 12
      omega
    · show 0 ≤ (if dl = true ∧ n ≤ a + (i : Int) then (1 : Int) else 0) ∧ (if dl = true ∧ n ≤ a + (i : Int) then (1 : Int) else 0) ≤ 1
      split <;> omega
  · cases hx
theorem chH_in {x : S92} (h : (0 ≤ x.f0 ∧ x.f0 < 12) ∧ (0 ≤ x.f1 ∧ x.f1 ≤ 1)) : 0 ≤ chH x ∧ chH x ≤ 127 := by
  unfold chH
  rw [w64 (x := x.f1 * 64) (by omega) (by omega), w64 (by omega) (by omega)]
  omega
theorem rdH_mem {hs : List S92} {i : Nat} (h : i < hs.length) : rd_T92 hs (i : Int) ∈ hs := by
  have e : rd_T92 hs (i : Int) = hs[i] := by
    show hs.getD (i : Int).toNat _ = _
    rw [Int.toNat_natCast, List.getD_eq_getElem?_getD, List.getElem?_eq_getElem h]
    rfl
  rw [e]
  exact List.getElem_mem h
theorem ringA_in (n a b : Int) (dl : Bool) : ∀ x ∈ ringA (hopsL n a b dl), dIn x := by
  intro x hx
  unfold ringA at hx
  obtain ⟨t, ht, rfl⟩ := List.mem_map.1 hx
  rw [List.mem_range] at ht
  exact ⟨chH_in (hop_in n a b dl _ (rdH_mem (by omega))), chH_in (hop_in n a b dl _ (rdH_mem (by omega)))⟩
def rawTo (nn : Nat) (dl : Bool) (m : Nat) : List S94 := (List.range m).flatMap fun i => ringA (hopsL (nn : Int) ((i / nn : Nat) : Int) ((i % nn : Nat) : Int) dl)
theorem rawTo_succ (nn : Nat) (dl : Bool) (m : Nat) : rawTo nn dl (m + 1) = rawTo nn dl m ++ ringA (hopsL (nn : Int) ((m / nn : Nat) : Int) ((m % nn : Nat) : Int) dl) := by
  unfold rawTo
  rw [List.range_succ, List.flatMap_append]
  simp
theorem rawTo_len (nn : Nat) (dl : Bool) : ∀ m : Nat, (rawTo nn dl m).length ≤ 12 * m
  | 0 => by simp [rawTo]
  | m + 1 => by
    have ih := rawTo_len nn dl m
    have h := hopsL_len (nn : Int) ((m / nn : Nat) : Int) ((m % nn : Nat) : Int) dl
    have h2 := ringA_len (hopsL (nn : Int) ((m / nn : Nat) : Int) ((m % nn : Nat) : Int) dl)
    rw [rawTo_succ, List.length_append]
    omega
theorem rawTo_in (nn : Nat) (dl : Bool) (m : Nat) : ∀ x ∈ rawTo nn dl m, dIn x := by
  intro x hx
  unfold rawTo at hx
  obtain ⟨i, _, hi⟩ := List.mem_flatMap.1 hx
  exact ringA_in _ _ _ _ x hi
theorem rdi_l2 (n : Int) (dl : Bool) (hs : List S92) (hl : hs.length ≤ 12) (raw : List S94) (hr : raw.length ≤ 4000) (x6 x15 x16 x19 x20 : Int) (r : List S94)
    (H : Ev (fun k => impl_RingDepends.l1 k n dl (raw ++ ringA hs) x6 x15 x16 x19 (wrap64 (x20 + 1))) r) : ∀ d t : Nat, t + d = hs.length - 1 → Ev (fun k => impl_RingDepends.l2 k n dl (raw ++ (List.range t).map (ringAD hs)) x6 hs ((t + 1 : Nat) : Int) x15 x16 x19 x20) r
  | 0, t, h => by
    have e : t = hs.length - 1 := by omega
    refine Ev.suc ?_
    simp only [impl_RingDepends.l2]
    refine Ev.ite_neg (by omega) ?_
    rw [e]
    exact H
  | d + 1, t, h => by
    have hw : wrap64 (((t + 1 : Nat) : Int) - 1) = (t : Int) := by rw [w64 (by omega) (by omega)]; omega
    have hn : wrap64 (((t + 1 : Nat) : Int) + 1) = ((t + 1 + 1 : Nat) : Int) := by rw [w64 (by omega) (by omega)]; omega
    have ih := rdi_l2 n dl hs hl raw hr x6 x15 x16 x19 x20 r H d (t + 1) (by omega)
    have hlen : (raw ++ (List.range t).map (ringAD hs)).length < 8796093022208 := by
      rw [List.length_append, List.length_map, List.length_range]
      omega
    refine Ev.suc ?_
    simp only [impl_RingDepends.l2, hw, hn]
    refine Ev.ite_pos (by omega) (Ev.ite_pos (by omega) (Ev.ite_pos (by omega) (Ev.ite_pos (by omega) (Ev.ite_pos hlen ?_))))
    rw [List.range_succ, List.map_append, ← List.append_assoc] at ih
    exact ih
theorem rdi_l1 (nn : Nat) (dl : Bool) (hn : 2 ≤ nn ∧ nn ≤ 12) (a : Nat) (ha : a < nn) (r : List S94)
    (H : Ev (fun k => impl_RingDepends.l0 k (nn : Int) dl (rawTo nn dl (a * nn + nn)) (nn : Int) ((a + 1 : Nat) : Int)) r) : ∀ d b : Nat, b + d = nn → Ev (fun k => impl_RingDepends.l1 k (nn : Int) dl (rawTo nn dl (a * nn + b)) (a : Int) (nn : Int) (a : Int) (nn : Int) (b : Int)) r
  | 0, b, h => by
    have e : b = nn := by omega
    have hw : wrap64 ((a : Int) + 1) = ((a + 1 : Nat) : Int) := by rw [w64 (by omega) (by omega)]; omega
    refine Ev.suc ?_
    simp only [impl_RingDepends.l1, hw]
    refine Ev.ite_neg (by omega) ?_
    rw [e]
    exact H
  | d + 1, b, h => by
    have ih := rdi_l1 nn dl hn a ha r H d (b + 1) (by omega)
    have hw : wrap64 ((b : Int) + 1) = ((b + 1 : Nat) : Int) := by rw [w64 (by omega) (by omega)]; omega
    have e1 : (a * nn + b) / nn = a := by rw [Nat.add_comm, Nat.add_mul_div_right b a (by omega), Nat.div_eq_of_lt (by omega), Nat.zero_add]
    have e2 : (a * nn + b) % nn = b := by rw [Nat.add_comm, Nat.add_mul_mod_self_right, Nat.mod_eq_of_lt (by omega)]
    have es : rawTo nn dl (a * nn + (b + 1)) = rawTo nn dl (a * nn + b) ++ ringA (hopsL (nn : Int) (a : Int) (b : Int) dl) := by
      rw [← Nat.add_assoc, rawTo_succ, e1, e2]
    have hq : a * nn ≤ 11 * 12 := Nat.mul_le_mul (by omega) hn.2
    have hlen := rawTo_len nn dl (a * nn + b)
    have hh := hopsL_len (nn : Int) (a : Int) (b : Int) dl
    rw [es, ← hw] at ih
    have h2 := rdi_l2 (nn : Int) dl (hopsL (nn : Int) (a : Int) (b : Int) dl) hh (rawTo nn dl (a * nn + b)) (by omega) (a : Int) (nn : Int) (a : Int) (nn : Int) (b : Int) r ih _ 0 (Nat.zero_add _)
    rw [List.range_zero, List.map_nil, List.append_nil] at h2
    refine Ev.suc ?_
    simp only [impl_RingDepends.l1]
    exact Ev.ite_pos (by omega) (Ev.bind (RingHops_i (nn : Int) (a : Int) (b : Int) dl) h2)
theorem rdi_l0 (nn : Nat) (dl : Bool) (hn : 2 ≤ nn ∧ nn ≤ 12) (r : List S94) (H : impl_arranged.f (rawTo nn dl (nn * nn)) = some r) :
    ∀ d a : Nat, a + d = nn → Ev (fun k => impl_RingDepends.l0 k (nn : Int) dl (rawTo nn dl (a * nn)) (nn : Int) (a : Int)) r
  | 0, a, h => by
    have e : a = nn := by omega
    subst e
    refine Ev.suc ?_
    simp only [impl_RingDepends.l0]
    exact Ev.ite_neg (by omega) (Ev.bindS H (Ev.now _))
  | d + 1, a, h => by
    have ih := rdi_l0 nn dl hn r H d (a + 1) (by omega)
    rw [Nat.add_mul, Nat.one_mul] at ih
    have h1 := rdi_l1 nn dl hn a (by omega) r ih nn 0 (Nat.zero_add _)
    refine Ev.suc ?_
    simp only [impl_RingDepends.l0]
    exact Ev.ite_pos (by omega) h1
theorem isRing_nil (n : Int) : Ev (fun k => impl_isRing.f k n []) (decide (2 ≤ n ∧ n ≤ 12)) := by
  unfold impl_isRing.f
  refine Ev.suc ?_
  simp only [impl_isRing.l0, inside_f, Option.bind_some]
  exact Ev.ite_neg (by simp) (Ev.now _)
/-- The dependencies of a ring, for the program. -/
theorem ringDep_i (n : Int) (dl : Bool) : ∃ r, dAll r = true ∧ r.length ≤ 1728 ∧ Ev (fun k => impl_RingDepends.f k n dl) r ∧ (¬ (2 ≤ n ∧ n ≤ 12) → r = []) ∧ ∀ nn : Nat, n = (nn : Int) → 2 ≤ nn ∧ nn ≤ 12 → ∀ y, y ∈ r ↔ y ∈ rawTo nn dl (nn * nn) := by
  unfold impl_RingDepends.f
  by_cases h : 2 ≤ n ∧ n ≤ 12
  · obtain ⟨nn, rfl⟩ : ∃ nn : Nat, n = (nn : Int) := ⟨n.toNat, by omega⟩
    have hn : 2 ≤ nn ∧ nn ≤ 12 := by omega
    have hq : nn * nn ≤ 12 * 12 := Nat.mul_le_mul hn.2 hn.2
    have hlen := rawTo_len nn dl (nn * nn)
    generalize hN : nn * nn = N at hq hlen
    subst hN
    obtain ⟨r, hr, h1, h2, h3⟩ := arr_i (rawTo nn dl (nn * nn)) (rawTo_in nn dl _) (by omega)
    refine ⟨r, h1, by omega, ?_, fun q => absurd h q, fun m e _ y => by rw [← show nn = m by omega, h2 y]⟩
    refine Ev.bindS rfl (Ev.bind (isRing_nil _) (Ev.ite_pos (decide_eq_true h) ?_))
    have h6 := rdi_l0 nn dl hn r hr nn 0 (Nat.zero_add _)
    rw [Nat.zero_mul] at h6
    exact h6
  · refine ⟨[], rfl, by simp, ?_, fun _ => rfl, fun m e hm => absurd (show 2 ≤ n ∧ n ≤ 12 by omega) h⟩
    exact Ev.bindS rfl (Ev.bind (isRing_nil _) (Ev.ite_neg (by rw [decide_eq_true_eq]; exact h) (Ev.now _)))

/-! ### walk -/
/-- A walk of n edges. -/
def Wk (adj : Int → Int → Prop) : Nat → Int → Int → Prop
  | 0, a, c => a = c
  | n + 1, a, c => ∃ b, adj a b ∧ Wk adj n b c
theorem Wk.snoc {adj : Int → Int → Prop} {b c : Int} (h : adj b c) : ∀ {n : Nat} {a : Int}, Wk adj n a b → Wk adj (n + 1) a c
  | 0, a, hw => ⟨c, (show a = b from hw) ▸ h, rfl⟩
  | n + 1, a, ⟨x, hx, hw⟩ => ⟨x, hx, Wk.snoc h hw⟩
theorem Wk.append {adj : Int → Int → Prop} {b c : Int} {m : Nat} (h : Wk adj m b c) : ∀ {n : Nat} {a : Int}, Wk adj n a b → Wk adj (n + m) a c
  | 0, a, hw => by
    have e : a = b := hw
    rw [e, Nat.zero_add]
    exact h
  | n + 1, a, ⟨x, hx, hw⟩ => by
    rw [Nat.add_right_comm]
    exact ⟨x, hx, Wk.append h hw⟩
theorem Wk.last {adj : Int → Int → Prop} {c : Int} : ∀ {n : Nat} {a : Int}, Wk adj (n + 1) a c → ∃ b, Wk adj n a b ∧ adj b c
  | 0, a, ⟨x, hx, hw⟩ => ⟨a, rfl, (show x = c from hw) ▸ hx⟩
  | n + 1, a, ⟨x, hx, hw⟩ => by
    obtain ⟨b, h1, h2⟩ := Wk.last hw
    exact ⟨b, ⟨x, hx, h1⟩, h2⟩
theorem Wk.split {adj : Int → Int → Prop} {c : Int} {m : Nat} : ∀ {n : Nat} {a : Int}, Wk adj (n + m) a c → ∃ b, Wk adj n a b ∧ Wk adj m b c
  | 0, a, h => by
    rw [Nat.zero_add] at h
    exact ⟨a, rfl, h⟩
  | n + 1, a, h => by
    rw [Nat.add_right_comm] at h
    obtain ⟨x, hx, hw⟩ := h
    obtain ⟨b, h1, h2⟩ := Wk.split hw
    exact ⟨b, ⟨x, hx, h1⟩, h2⟩
theorem Wk.mono {adj adj' : Int → Int → Prop} (h : ∀ a b, adj a b → adj' a b) {c : Int} : ∀ {n : Nat} {a : Int}, Wk adj n a c → Wk adj' n a c
  | 0, _, hw => hw
  | _ + 1, _, ⟨x, hx, hw⟩ => ⟨x, h _ _ hx, Wk.mono h hw⟩
/-- The least number of edges, at least one. -/
def PD (adj : Int → Int → Prop) (a b : Int) (m : Nat) : Prop := 0 < m ∧ Wk adj m a b ∧ ∀ j, 0 < j → j < m → ¬ Wk adj j a b
/-- What 'steps between' says: -1 for none. -/
def SB (adj : Int → Int → Prop) (a b v : Int) : Prop := (v = -1 ∧ ∀ n, 0 < n → ¬ Wk adj n a b) ∨ ∃ m : Nat, v = (m : Int) ∧ PD adj a b m
theorem PD.unique {adj : Int → Int → Prop} {a b : Int} {m n : Nat} (h : PD adj a b m) (k : PD adj a b n) : m = n := by
  obtain ⟨h1, h2, h3⟩ := h
  obtain ⟨k1, k2, k3⟩ := k
  rcases Nat.lt_trichotomy m n with h | h | h
  · exact absurd h2 (k3 m h1 h)
  · exact h
  · exact absurd k2 (h3 n k1 h)
theorem SB.unique {adj : Int → Int → Prop} {a b v u : Int} (h : SB adj a b v) (k : SB adj a b u) : v = u := by
  rcases h with ⟨rfl, h⟩ | ⟨m, rfl, h⟩
  · rcases k with ⟨rfl, _⟩ | ⟨n, rfl, k⟩
    · rfl
    · exact absurd k.2.1 (h n k.1)
  · rcases k with ⟨rfl, k⟩ | ⟨n, rfl, k⟩
    · exact absurd h.2.1 (k m h.1)
    · rw [h.unique k]
/-- A least one of what holds somewhere. -/
theorem least {P : Nat → Prop} (n : Nat) : P n → ∃ m, P m ∧ m ≤ n ∧ ∀ j, j < m → ¬ P j := by
  induction n using Nat.strongRecOn with
  | _ n ih =>
    intro h
    by_cases hs : ∃ j, j < n ∧ P j
    · obtain ⟨j, hj, hp⟩ := hs
      obtain ⟨m, hm, hmn, hl⟩ := ih j hj hp
      exact ⟨m, hm, by omega, hl⟩
    · exact ⟨n, h, Nat.le_refl _, fun j hj hp => hs ⟨j, hj, hp⟩⟩
theorem PD.of {adj : Int → Int → Prop} {a b : Int} {n : Nat} (h0 : 0 < n) (h : Wk adj n a b) : ∃ m, PD adj a b m ∧ m ≤ n := by
  obtain ⟨m, ⟨h1, h2⟩, hmn, hl⟩ := least (P := fun n => 0 < n ∧ Wk adj n a b) n ⟨h0, h⟩
  exact ⟨m, ⟨h1, h2, fun j hj hjm hw => hl j hjm ⟨hj, hw⟩⟩, hmn⟩

/-! ### succ -/
/-- The successors of a channel, in the order of the list. -/
def su (l : List S94) (a : Int) : List Int := (l.filter (fun x => decide (x.f0 = a))).map (fun x => x.f1)
abbrev adjL (l : List S94) (a b : Int) : Prop := ∃ x, x ∈ l ∧ x.f0 = a ∧ x.f1 = b
theorem su_mem (l : List S94) (a b : Int) : b ∈ su l a ↔ adjL l a b := by
  unfold su adjL
  rw [List.mem_map]
  constructor
  · rintro ⟨x, hx, rfl⟩
    rw [List.mem_filter, decide_eq_true_eq] at hx
    exact ⟨x, hx.1, hx.2, rfl⟩
  · rintro ⟨x, hx, rfl, rfl⟩
    exact ⟨x, List.mem_filter.2 ⟨hx, decide_eq_true rfl⟩, rfl⟩
theorem su_cons_pos (x : S94) (r : List S94) (a : Int) (h : x.f0 = a) : su (x :: r) a = x.f1 :: su r a := by
  unfold su
  rw [List.filter_cons, if_pos (decide_eq_true h), List.map_cons]
theorem su_cons_neg (x : S94) (r : List S94) (a : Int) (h : ¬ x.f0 = a) : su (x :: r) a = su r a := by
  unfold su
  rw [List.filter_cons, if_neg (by rw [decide_eq_true_eq]; exact h)]
theorem su_len (l : List S94) (a : Int) : (su l a).length ≤ l.length := by
  unfold su
  rw [List.length_map]
  exact List.length_filter_le _ _
theorem dGo_in : ∀ (r : List S94) (y : S94), dGo y r = true → ∀ x ∈ r, dIn x
  | [], _, _, x, hx => by cases hx
  | z :: r, y, h, x, hx => by
    rw [dGo_cons, Bool.and_eq_true, Bool.and_eq_true] at h
    rcases List.mem_cons.1 hx with rfl | hx
    · exact of_decide_eq_true h.1
    · exact dGo_in r z h.2.2 x hx
theorem dAll_in : ∀ (l : List S94), dAll l = true → ∀ x ∈ l, dIn x
  | [], _, x, hx => by cases hx
  | z :: r, h, x, hx => by
    rw [dAll_cons, Bool.and_eq_true] at h
    rcases List.mem_cons.1 hx with rfl | hx
    · exact of_decide_eq_true h.1
    · exact dGo_in r z h.2 x hx
theorem adjL_in {l : List S94} (hd : ∀ x ∈ l, dIn x) {a b : Int} (h : adjL l a b) : (0 ≤ a ∧ a ≤ 127) ∧ (0 ≤ b ∧ b ≤ 127) := by
  obtain ⟨x, hx, rfl, rfl⟩ := h
  exact hd x hx
theorem rd_eq (l : List Int) (i : Int) : rd l i = l.getD i.toNat 0 := rfl
theorem rd_setI (D : List Int) (v n u : Int) (h0 : 0 ≤ v) (h1 : v < (D.length : Int)) (hu : 0 ≤ u) : rd (D.set v.toNat n) u = if u = v then n else rd D u := by
  rw [rd_eq, rd_eq, List.getD_eq_getElem?_getD, List.getD_eq_getElem?_getD, List.getElem?_set]
  by_cases h : u = v
  · subst h
    rw [if_pos rfl, if_pos (by omega), if_pos rfl]
    rfl
  · rw [if_neg h, if_neg (by omega)]
theorem count_setI (D : List Int) (v n b : Int) (h0 : 0 ≤ v) (h1 : v < (D.length : Int)) (he : rd D v = b) (hn : n ≠ b) : (D.set v.toNat n).count b + 1 = D.count b := by
  have hl : v.toNat < D.length := by omega
  have e : D[v.toNat] = b := by
    rw [rd_eq, List.getD_eq_getElem?_getD, List.getElem?_eq_getElem hl] at he
    exact he
  have hp : 0 < D.count b := List.count_pos_iff.2 (e ▸ List.getElem_mem hl)
  rw [List.count_set hl, e, if_pos (by simp), if_neg (by simpa using hn)]
  omega

/-! ### cycleW -/
theorem Wk.cons {adj : Int → Int → Prop} {n : Nat} {a b c : Int} (h : adj a b) (w : Wk adj n b c) : Wk adj (n + 1) a c := ⟨b, h, w⟩
/-- How far a goal is: the least number of edges, -1 for none. -/
def DT (adj : Int → Int → Prop) (goal v x : Int) : Prop := (x = -1 ∧ ∀ n, ¬ Wk adj n v goal) ∨ ∃ m : Nat, x = (m : Int) ∧ Wk adj m v goal ∧ ∀ j, j < m → ¬ Wk adj j v goal
/-- How far a channel is: the least positive number of edges, 0 for none. -/
def D0 (adj : Int → Int → Prop) (a b x : Int) : Prop := (x = 0 ∧ ∀ n, 0 < n → ¬ Wk adj n a b) ∨ ∃ m : Nat, x = (m : Int) ∧ PD adj a b m
theorem D0.nonneg {adj : Int → Int → Prop} {a b x : Int} (h : D0 adj a b x) : 0 ≤ x := by
  rcases h with ⟨rfl, _⟩ | ⟨m, rfl, _⟩ <;> omega
theorem DT.ge {adj : Int → Int → Prop} {a b x : Int} (h : DT adj a b x) : -1 ≤ x := by
  rcases h with ⟨rfl, _⟩ | ⟨m, rfl, _⟩ <;> omega
theorem DT.walk {adj : Int → Int → Prop} {g v x : Int} (h : DT adj g v x) (h0 : 0 ≤ x) : Wk adj x.toNat v g := by
  rcases h with ⟨rfl, _⟩ | ⟨m, rfl, h, _⟩
  · omega
  · exact h
theorem DT.le {adj : Int → Int → Prop} {g v x : Int} (h : DT adj g v x) {n : Nat} (hw : Wk adj n v g) : 0 ≤ x ∧ x ≤ (n : Int) := by
  rcases h with ⟨_, h⟩ | ⟨m, rfl, _, h⟩
  · exact absurd hw (h n)
  · refine ⟨by omega, ?_⟩
    rcases Nat.lt_or_ge n m with hl | hl
    · exact absurd hw (h n hl)
    · omega
theorem D0.walk {adj : Int → Int → Prop} {a b x : Int} (h : D0 adj a b x) (h0 : 0 < x) : Wk adj x.toNat a b := by
  rcases h with ⟨rfl, _⟩ | ⟨m, rfl, h⟩
  · omega
  · exact h.2.1
theorem D0.le {adj : Int → Int → Prop} {a b x : Int} (h : D0 adj a b x) {n : Nat} (hn : 0 < n) (hw : Wk adj n a b) : 0 < x ∧ x ≤ (n : Int) := by
  rcases h with ⟨_, h⟩ | ⟨m, rfl, h⟩
  · exact absurd hw (h n hn)
  · refine ⟨by have := h.1; omega, ?_⟩
    rcases Nat.lt_or_ge n m with hl | hl
    · exact absurd hw (h.2.2 n hn hl)
    · omega
theorem DT.self {adj : Int → Int → Prop} {g x : Int} (h : DT adj g g x) : x = 0 := by
  have := h.le (n := 0) rfl
  omega
theorem DT.zero {adj : Int → Int → Prop} {g v : Int} (h : DT adj g v 0) : v = g := h.walk (by omega)
/-- The edges out of channels not below a least one. -/
def adjF (adj : Int → Int → Prop) (s : Int) (a b : Int) : Prop := adj a b ∧ s ≤ a
theorem adjF.lift {adj : Int → Int → Prop} {s : Int} {n : Nat} {a b : Int} (h : Wk (adjF adj s) n a b) : Wk adj n a b := Wk.mono (fun _ _ h => h.1) h
/-- A shortest closed walk: its length is g, its first channel the least that any such one has. -/
structure Girth (adj : Int → Int → Prop) (s : Int) (g : Nat) : Prop where
  pos : 0 < g
  wk : Wk adj g s s
  least : ∀ c n, 0 < n → Wk adj n c c → g ≤ n
  first : ∀ c n, c < s → 0 < n → Wk adj n c c → g < n
theorem Girth.on {adj : Int → Int → Prop} {s v : Int} {g p q : Nat} (h : Girth adj s g) (h1 : Wk adj p s v) (h2 : Wk adj q v s) (e : p + q = g) : s ≤ v := by
  rcases Int.lt_or_le v s with hl | hl
  · have := h.first v (q + p) hl (by have := h.pos; omega) (Wk.append h1 h2)
    omega
  · exact hl
theorem Girth.restrict {adj : Int → Int → Prop} {s : Int} {g : Nat} (h : Girth adj s g) : ∀ (q p : Nat) (v : Int), Wk adj p s v → Wk adj q v s → p + q = g → Wk (adjF adj s) q v s
  | 0, _, _, _, h2, _ => h2
  | q + 1, p, v, h1, ⟨b, hb, h2⟩, e => ⟨b, ⟨hb, h.on h1 (Wk.cons hb h2) e⟩, h.restrict q (p + 1) b (Wk.snoc hb h1) h2 (by omega)⟩
theorem Girth.ge {adj : Int → Int → Prop} {s a c x : Int} {g i n : Nat} (h : Girth adj s g) (e : i + n + 1 = g) (h1 : Wk adj i s a) (hc : adj a c) (hx : DT (adjF adj s) s c x) (h0 : 0 ≤ x) : (n : Int) ≤ x := by
  have hw := adjF.lift (hx.walk h0)
  have := h.least s (i + (x.toNat + 1)) (by omega) (Wk.append (Wk.cons hc hw) h1)
  omega
theorem Girth.same {adj : Int → Int → Prop} {s a c x y : Int} {g i n : Nat} (h : Girth adj s g) (e : i + n + 1 = g) (h1 : Wk adj i s a) (hc : adj a c) (hx : DT (adjF adj s) s c x) (hy : D0 adj c s y) :
    (s ≤ c ∧ x = (n : Int)) ↔ ((n = 0 ∧ c = s) ∨ (0 < n ∧ c ≠ s ∧ y = (n : Int))) := by
  constructor
  · rintro ⟨h2, rfl⟩
    rcases Nat.eq_zero_or_pos n with h0 | h0
    · subst h0
      exact Or.inl ⟨rfl, hx.zero⟩
    · have hw := adjF.lift (hx.walk (by omega))
      rw [Int.toNat_natCast] at hw
      obtain ⟨y0, y1⟩ := hy.le h0 hw
      have hw2 := hy.walk y0
      have := h.least s (i + (y.toNat + 1)) (by omega) (Wk.append (Wk.cons hc hw2) h1)
      refine Or.inr ⟨h0, fun hcs => ?_, by omega⟩
      subst hcs
      have := hx.self
      omega
  · rintro (⟨rfl, rfl⟩ | ⟨h0, hne, rfl⟩)
    · exact ⟨Int.le_refl _, by rw [hx.self]; rfl⟩
    · have hw := hy.walk (by omega)
      rw [Int.toNat_natCast] at hw
      have h3 := Wk.snoc hc h1
      have := hx.le (h.restrict n (i + 1) c h3 hw (by omega))
      have := h.ge e h1 hc hx (by omega)
      exact ⟨h.on h3 hw (by omega), by omega⟩
theorem Girth.near {adj : Int → Int → Prop} {s a : Int} {g i n : Nat} (h : Girth adj s g) (e : i + n + 1 = g) (h1 : Wk adj i s a) (h2 : Wk adj (n + 1) a s) :
    ∃ c, adj a c ∧ s ≤ c ∧ Wk adj n c s ∧ Wk adj (i + 1) s c ∧ ∀ x, DT (adjF adj s) s c x → x = (n : Int) := by
  obtain ⟨c, hc, hw⟩ := h2
  have h3 := Wk.snoc hc h1
  refine ⟨c, hc, h.on h3 hw (by omega), hw, h3, fun x hx => ?_⟩
  have := hx.le (h.restrict n (i + 1) c h3 hw (by omega))
  have := h.ge e h1 hc hx (by omega)
  omega
/-- The channels of a shortest cycle, each the first successor that is near enough. -/
def pathF (su : Int → List Int) (ok : Nat → Int → Bool) : Nat → Int → List Int
  | 0, _ => []
  | n + 1, a => a :: (match (su a).find? (ok n) with
    | some c => pathF su ok n c
    | none => [])
theorem pathF_succ (su : Int → List Int) (ok : Nat → Int → Bool) (n : Nat) (a : Int) : pathF su ok (n + 1) a = a :: (match (su a).find? (ok n) with
    | some c => pathF su ok n c
    | none => []) := rfl
theorem pathF_some {su : Int → List Int} {ok : Nat → Int → Bool} {n : Nat} {a c : Int} (h : (su a).find? (ok n) = some c) : pathF su ok (n + 1) a = a :: pathF su ok n c := by
  rw [pathF_succ, h]
theorem find_some {α : Type} {p : α → Bool} {l : List α} (h : ∃ x, x ∈ l ∧ p x = true) : ∃ x, l.find? p = some x ∧ x ∈ l ∧ p x = true := by
  cases e : l.find? p with
  | none =>
    obtain ⟨x, hx, hp⟩ := h
    exact absurd hp (List.find?_eq_none.1 e x hx)
  | some x => exact ⟨x, rfl, List.mem_of_find?_eq_some e, List.find?_some e⟩
theorem find_congr {α : Type} {p q : α → Bool} : ∀ {l : List α}, (∀ x ∈ l, p x = q x) → l.find? p = l.find? q
  | [], _ => rfl
  | x :: l, h => by
    rw [List.find?_cons, List.find?_cons, h x List.mem_cons_self, find_congr (fun y hy => h y (List.mem_cons_of_mem _ hy))]

/-! ### cyclePath -/
/-- What the step says: a successor that is near enough. -/
abbrev okF (fr : Int → Int) (s : Int) (n : Nat) (c : Int) : Bool := decide (s ≤ c ∧ fr c = (n : Int))
theorem Girth.step {adj : Int → Int → Prop} {s a : Int} {g i n : Nat} {su : Int → List Int} {fr : Int → Int} (h : Girth adj s g) (hsu : ∀ a c, c ∈ su a ↔ adj a c) (hfr : ∀ a c, adj a c → DT (adjF adj s) s c (fr c))
    (e : i + (n + 1) = g) (h1 : Wk adj i s a) (h2 : Wk adj (n + 1) a s) : ∃ c, (su a).find? (okF fr s n) = some c ∧ adj a c ∧ Wk adj (i + 1) s c ∧ Wk adj n c s ∧ s ≤ c ∧ fr c = (n : Int) := by
  obtain ⟨c0, hc0, hs0, hw0, _, hx0⟩ := h.near (n := n) (by omega) h1 h2
  obtain ⟨c, hf, hm, hp⟩ := find_some (p := okF fr s n) ⟨c0, (hsu a c0).2 hc0, decide_eq_true ⟨hs0, hx0 _ (hfr a c0 hc0)⟩⟩
  have hp' := of_decide_eq_true hp
  have hc := (hsu a c).1 hm
  have hw := adjF.lift ((hfr a c hc).walk (by omega))
  rw [hp'.2, Int.toNat_natCast] at hw
  exact ⟨c, hf, hc, Wk.snoc hc h1, hw, hp'.1, hp'.2⟩
theorem Girth.path {adj : Int → Int → Prop} {s : Int} {g : Nat} {su : Int → List Int} {fr : Int → Int} (h : Girth adj s g) (hsu : ∀ a c, c ∈ su a ↔ adj a c) (hfr : ∀ a c, adj a c → DT (adjF adj s) s c (fr c)) :
    ∀ (n i : Nat) (a : Int), i + n = g → Wk adj i s a → Wk adj n a s → (pathF su (okF fr s) n a).length = n ∧ (pathF su (okF fr s) n a).getD 0 s = a ∧
      ∀ j, j < n → Wk adj (i + j) s ((pathF su (okF fr s) n a).getD j s) ∧ Wk adj (n - j) ((pathF su (okF fr s) n a).getD j s) s ∧ adj ((pathF su (okF fr s) n a).getD j s) ((pathF su (okF fr s) n a).getD (j + 1) s)
  | 0, i, a, e, h1, h2 => ⟨rfl, (show a = s from h2).symm, fun j hj => by omega⟩
  | n + 1, i, a, e, h1, h2 => by
    obtain ⟨c, hf, hc, h3, h4, _, _⟩ := h.step hsu hfr e h1 h2
    obtain ⟨l1, l2, l3⟩ := h.path hsu hfr n (i + 1) c (by omega) h3 h4
    rw [pathF_some hf]
    refine ⟨by rw [List.length_cons, l1], rfl, fun j hj => ?_⟩
    cases j with
    | zero =>
      refine ⟨h1, h2, ?_⟩
      rw [List.getD_cons_succ, l2]
      exact hc
    | succ j =>
      obtain ⟨m1, m2, m3⟩ := l3 j (by omega)
      simp only [List.getD_cons_succ]
      exact ⟨by rw [show i + (j + 1) = i + 1 + j by omega]; exact m1, by rw [show n + 1 - (j + 1) = n - j by omega]; exact m2, m3⟩
theorem Girth.inj {adj : Int → Int → Prop} {s a : Int} {g i j : Nat} (h : Girth adj s g) (hij : i < j) (hj : j < g) (h1 : Wk adj i s a) (h2 : Wk adj (g - j) a s) : False := by
  have := h.least s (i + (g - j)) (by omega) (Wk.append h2 h1)
  omega

/-! ### pigeon -/
theorem filter_ne_len (a : Int) : ∀ (l : List Int), l.Nodup → l.length ≤ (l.filter (fun x => decide (x ≠ a))).length + 1
  | [], _ => by simp
  | x :: l, h => by
    rw [List.nodup_cons] at h
    have ih := filter_ne_len a l h.2
    by_cases hx : x = a
    · subst hx
      have e : (l.filter (fun y => decide (y ≠ x))) = l := List.filter_eq_self.2 (fun y hy => decide_eq_true (fun z => h.1 (z ▸ hy)))
      rw [List.filter_cons_of_neg (by simp), e, List.length_cons]
      omega
    · have e : decide (x ≠ a) = true := decide_eq_true hx
      rw [List.filter_cons, if_pos e, List.length_cons, List.length_cons]
      omega
theorem nodup_len : ∀ (n : Nat) (l : List Int), l.Nodup → (∀ x ∈ l, 0 ≤ x ∧ x < (n : Int)) → l.length ≤ n
  | 0, l, _, h => by
    cases l with
    | nil => simp
    | cons x l => have := h x List.mem_cons_self; omega
  | n + 1, l, hd, h => by
    have h1 := filter_ne_len (n : Int) l hd
    have h2 := nodup_len n (l.filter (fun x => decide (x ≠ (n : Int)))) (List.Pairwise.filter _ hd) (fun x hx => by
      rw [List.mem_filter, decide_eq_true_eq] at hx
      have := h x hx.1
      omega)
    omega
/-- The channels along a walk backwards, newest first. -/
inductive Back (adj : Int → Int → Prop) : List Int → Prop
  | one (a : Int) : Back adj [a]
  | more {a b : Int} {l : List Int} (h : adj a b) (t : Back adj (b :: l)) : Back adj (a :: b :: l)
theorem Back.wk {adj : Int → Int → Prop} {l : List Int} (h : Back adj l) : ∀ {a : Int} {r : List Int}, l = a :: r → ∀ x ∈ r, ∃ n, 0 < n ∧ Wk adj n a x := by
  induction h with
  | one a =>
    intro b r e x hx
    cases e
    cases hx
  | more h t ih =>
    intro c r e x hx
    cases e
    rcases List.mem_cons.1 hx with rfl | hx
    · exact ⟨1, by omega, Wk.cons h rfl⟩
    · obtain ⟨n, hn, hw⟩ := ih rfl x hx
      exact ⟨n + 1, by omega, Wk.cons h hw⟩
theorem Back.nodup {adj : Int → Int → Prop} (hc : ∀ a n, 0 < n → ¬ Wk adj n a a) {l : List Int} (h : Back adj l) : l.Nodup := by
  induction h with
  | one a => exact List.nodup_cons.2 ⟨List.not_mem_nil, List.nodup_nil⟩
  | @more a b l h t ih =>
    refine List.nodup_cons.2 ⟨fun hm => ?_, ih⟩
    obtain ⟨n, hn, hw⟩ := (Back.more h t).wk rfl a hm
    exact hc a n hn hw
theorem back_long {adj : Int → Int → Prop} {U : Int → Prop} (hp : ∀ c, U c → ∃ b, adj b c ∧ U b) {c : Int} (h : U c) : ∀ n : Nat, ∃ a l, Back adj (a :: l) ∧ l.length = n ∧ U a ∧ ∀ x ∈ a :: l, U x
  | 0 => ⟨c, [], .one c, rfl, h, fun x hx => by rw [List.mem_singleton.1 hx]; exact h⟩
  | n + 1 => by
    obtain ⟨a, l, hb, hl, hu, ha⟩ := back_long hp h n
    obtain ⟨b, hab, hub⟩ := hp a hu
    exact ⟨b, a :: l, .more hab hb, by simp [hl], hub, fun x hx => (List.mem_cons.1 hx).elim (fun e => e ▸ hub) (ha x)⟩
/-- Where each channel of a set has a predecessor in it, there is a closed walk. -/
theorem closed_of_preds {adj : Int → Int → Prop} {U : Int → Prop} (hr : ∀ c, U c → 0 ≤ c ∧ c ≤ 127) (hp : ∀ c, U c → ∃ b, adj b c ∧ U b) {c : Int} (h : U c) : ∃ a n, 0 < n ∧ Wk adj n a a := by
  refine Classical.byContradiction fun hn => ?_
  have hc : ∀ a n, 0 < n → ¬ Wk adj n a a := fun a n h0 hw => hn ⟨a, n, h0, hw⟩
  obtain ⟨a, l, hb, hl, _, hu⟩ := back_long hp h 128
  have h1 := nodup_len 128 (a :: l) (hb.nodup hc) (fun x hx => by have := hr x (hu x hx); omega)
  rw [List.length_cons] at h1
  omega

/-! ### short -/
/-- What the shortest cycle is: nothing where there is no closed walk, else the channels of a shortest one from its least channel on. -/
def IsShort (l : List S94) (P : List Int) : Prop := (P = [] ∧ ∀ c n, 0 < n → ¬ Wk (adjL l) n c c) ∨ ∃ (s : Int) (g : Nat) (fr : Int → Int), Girth (adjL l) s g ∧ (∀ a c, adjL l a c → DT (adjF (adjL l) s) s c (fr c)) ∧ P = pathF (su l) (okF fr s) g s
theorem DT.unique {adj : Int → Int → Prop} {g v x y : Int} (h : DT adj g v x) (k : DT adj g v y) : x = y := by
  rcases h with ⟨rfl, h⟩ | ⟨m, rfl, h1, h2⟩
  · rcases k with ⟨rfl, _⟩ | ⟨n, rfl, k1, _⟩
    · rfl
    · exact absurd k1 (h n)
  · rcases k with ⟨rfl, k⟩ | ⟨n, rfl, k1, k2⟩
    · exact absurd h1 (k m)
    · rcases Nat.lt_trichotomy m n with h | h | h
      · exact absurd h1 (k2 m h)
      · rw [h]
      · exact absurd k1 (h2 n h)
theorem pathF_congr {su : Int → List Int} {ok ok' : Nat → Int → Bool} (h : ∀ a c n, c ∈ su a → ok n c = ok' n c) : ∀ (n : Nat) (a : Int), pathF su ok n a = pathF su ok' n a
  | 0, _ => rfl
  | n + 1, a => by
    rw [pathF_succ, pathF_succ, find_congr (fun c hc => h a c n hc)]
    split
    · rw [pathF_congr h n]
    · rfl
theorem Girth.unique {adj : Int → Int → Prop} {s s' : Int} {g g' : Nat} (h : Girth adj s g) (k : Girth adj s' g') : s = s' ∧ g = g' := by
  have h1 := h.least s' g' k.pos k.wk
  have h2 := k.least s g h.pos h.wk
  refine ⟨?_, by omega⟩
  rcases Int.lt_trichotomy s s' with e | e | e
  · have := k.first s g e h.pos h.wk
    omega
  · exact e
  · have := h.first s' g' e k.pos k.wk
    omega
theorem IsShort.unique {l : List S94} {P Q : List Int} (h : IsShort l P) (k : IsShort l Q) : P = Q := by
  rcases h with ⟨rfl, h⟩ | ⟨s, g, fr, hg, hf, rfl⟩
  · rcases k with ⟨rfl, _⟩ | ⟨s, g, fr, hg, _, _⟩
    · rfl
    · exact absurd hg.wk (h s g hg.pos)
  · rcases k with ⟨rfl, k⟩ | ⟨s', g', fr', hg', hf', rfl⟩
    · exact absurd hg.wk (k s g hg.pos)
    · obtain ⟨rfl, rfl⟩ := hg.unique hg'
      exact pathF_congr (fun a c n hc => by
        have hc' := (su_mem l a c).1 hc
        unfold okF
        rw [(hf a c hc').unique (hf' a c hc')]) g s
theorem wk_in {l : List S94} (hd : ∀ x ∈ l, dIn x) {n : Nat} {c e : Int} (hn : 0 < n) (h : Wk (adjL l) n c e) : 0 ≤ c ∧ c ≤ 127 := by
  obtain ⟨m, rfl⟩ : ∃ m, n = m + 1 := ⟨n - 1, by omega⟩
  obtain ⟨b, hb, _⟩ := h
  exact (adjL_in hd hb).1
theorem girth_ex {l : List S94} (hd : ∀ x ∈ l, dIn x) {c : Int} {n : Nat} (hn : 0 < n) (h : Wk (adjL l) n c c) : ∃ s g, Girth (adjL l) s g := by
  obtain ⟨g, ⟨h1, c1, h2⟩, _, h3⟩ := least (P := fun n => 0 < n ∧ ∃ c, Wk (adjL l) n c c) n ⟨hn, c, h⟩
  have hr := wk_in hd h1 h2
  obtain ⟨q, h4, _, h5⟩ := least (P := fun q => Wk (adjL l) g (q : Int) (q : Int)) c1.toNat (by rw [show ((c1.toNat : Nat) : Int) = c1 by omega]; exact h2)
  refine ⟨(q : Int), g, h1, h4, fun d m hm hw => ?_, fun d m hdq hm hw => ?_⟩
  · rcases Nat.lt_or_ge m g with e | e
    · exact absurd ⟨hm, d, hw⟩ (h3 m e)
    · exact e
  · have hdr := wk_in hd hm hw
    rcases Nat.lt_or_ge g m with e | e
    · exact e
    · rcases Nat.lt_or_ge m g with e2 | e2
      · exact absurd ⟨hm, d, hw⟩ (h3 m e2)
      · have e3 : m = g := by omega
        subst e3
        exact absurd (by rw [show ((d.toNat : Nat) : Int) = d by omega]; exact hw) (h5 d.toNat (by omega))
theorem dt_fun (adj : Int → Int → Prop) (s : Int) : ∃ fr : Int → Int, ∀ c, DT adj s c (fr c) := by
  have h : ∀ c, ∃ x, DT adj s c x := fun c => by
    by_cases hx : ∃ n, Wk adj n c s
    · obtain ⟨n, hx⟩ := hx
      obtain ⟨m, hm, _, hml⟩ := least (P := fun n => Wk adj n c s) n hx
      exact ⟨(m : Int), Or.inr ⟨m, rfl, hm, hml⟩⟩
    · exact ⟨-1, Or.inl ⟨rfl, fun n hn => hx ⟨n, hn⟩⟩⟩
  exact ⟨fun c => Classical.choose (h c), fun c => Classical.choose_spec (h c)⟩
theorem getD_lt (P : List Int) (j : Nat) (s : Int) (h : j < P.length) : P.getD j s = P[j] := by
  rw [List.getD_eq_getElem?_getD, List.getElem?_eq_getElem h]
  rfl
theorem path_nodup {l : List S94} {s : Int} {g : Nat} {fr : Int → Int} (hG : Girth (adjL l) s g) (hfr : ∀ a c, adjL l a c → DT (adjF (adjL l) s) s c (fr c)) : (pathF (su l) (okF fr s) g s).Nodup := by
  obtain ⟨h1, _, h3⟩ := hG.path (su_mem l) hfr g 0 s (by omega) rfl hG.wk
  refine List.pairwise_iff_getElem.2 fun i j hi hj hij e => ?_
  have a1 := h3 i (by omega)
  have a2 := h3 j (by omega)
  rw [getD_lt _ i s hi, Nat.zero_add] at a1
  rw [getD_lt _ j s hj] at a2
  exact hG.inj hij (by omega) (e ▸ a1.1) a2.2.1
theorem girth_le {l : List S94} (hd : ∀ x ∈ l, dIn x) {s : Int} {g : Nat} (hG : Girth (adjL l) s g) : g ≤ 128 := by
  obtain ⟨fr, hfr⟩ := dt_fun (adjF (adjL l) s) s
  obtain ⟨h1, _, h3⟩ := hG.path (su_mem l) (fun _ c _ => hfr c) g 0 s (by omega) rfl hG.wk
  have := nodup_len 128 _ (path_nodup hG (fun _ c _ => hfr c)) (fun x hx => by
    obtain ⟨j, hj, rfl⟩ := List.getElem_of_mem hx
    have a1 := (h3 j (by omega)).2.2
    rw [getD_lt _ j s hj] at a1
    have := (adjL_in hd a1).1
    omega)
  omega

/-! ### dist_i -/
/-- What holds while the channels that lead to a goal are found: O the numbers so far, P the channels gone through, T those still to be gone through. -/
structure QI (E : Int → Int → Prop) (goal : Int) (O P T : List Int) : Prop where
  len : O.length = 128
  val : ∀ v, 0 ≤ v → v ≤ 127 → -1 ≤ rd O v ∧ rd O v < ((P ++ T).length : Int) ∧ (0 ≤ rd O v → Wk E (rd O v).toNat v goal)
  mem : ∀ v, 0 ≤ v → v ≤ 127 → (v ∈ P ++ T ↔ 0 ≤ rd O v)
  nin : ∀ v, v ∈ P ++ T → 0 ≤ v ∧ v ≤ 127
  srt : (P ++ T).Pairwise (fun x y => rd O x ≤ rd O y)
  top : ∀ c R, T = c :: R → ∀ v, v ∈ P ++ T → rd O v ≤ rd O c + 1
  clo : ∀ v, v ∈ P → ∀ u, E u v → 0 ≤ rd O u ∧ rd O u ≤ rd O v + 1
  goal0 : rd O goal = 0
  cnt : O.count (-1) + (P ++ T).length = 128
theorem QI.put {E : Int → Int → Prop} {goal : Int} {O P R : List Int} {c s : Int} (h : QI E goal O P (c :: R)) (hE : ∀ x y, E x y → 0 ≤ x ∧ x ≤ 127) (hg : 0 ≤ goal ∧ goal ≤ 127) (hs : E s c) (h0 : rd O s < 0) :
    QI E goal (O.set s.toNat (rd O c + 1)) P (c :: (R ++ [s])) := by
  have hr := hE s c hs
  have hl := h.len
  have hcm : c ∈ P ++ (c :: R) := List.mem_append.2 (Or.inr List.mem_cons_self)
  have hcr := h.nin c hcm
  have hc0 := (h.mem c hcr.1 hcr.2).1 hcm
  have hcv := h.val c hcr.1 hcr.2
  have hsn : s ∉ P ++ (c :: R) := fun z => by have := (h.mem s hr.1 hr.2).1 z; omega
  have hG : ∀ u, 0 ≤ u → rd (O.set s.toNat (rd O c + 1)) u = if u = s then rd O c + 1 else rd O u := fun u hu => rd_setI O s _ u hr.1 (by omega) hu
  have hsame : ∀ u, u ∈ P ++ (c :: R) → rd (O.set s.toNat (rd O c + 1)) u = rd O u := fun u hu => by
    rw [hG u (h.nin u hu).1, if_neg (by rintro rfl; exact hsn hu)]
  have happ : P ++ (c :: (R ++ [s])) = (P ++ (c :: R)) ++ [s] := by simp
  have hcs : c ≠ s := fun e => hsn (e ▸ hcm)
  have h1 : rd O s = -1 := by have := (h.val s hr.1 hr.2).1; omega
  refine ⟨by rw [List.length_set]; exact hl, fun v v0 v1 => ?_, fun v v0 v1 => ?_, fun v hv => ?_, ?_, fun c' R' e v hv => ?_, fun v hv u hu => ?_, ?_, ?_⟩
  · rw [hG v v0, happ, List.length_append, List.length_singleton]
    by_cases e : v = s
    · rw [if_pos e]
      refine ⟨by omega, by omega, fun _ => ?_⟩
      rw [e, show (rd O c + 1).toNat = (rd O c).toNat + 1 by omega]
      exact Wk.cons hs (hcv.2.2 hc0)
    · rw [if_neg e]
      have := h.val v v0 v1
      exact ⟨this.1, by omega, this.2.2⟩
  · rw [hG v v0, happ, List.mem_append, List.mem_singleton, h.mem v v0 v1]
    by_cases e : v = s
    · simp only [e, if_pos, or_true, true_iff]
      omega
    · simp [e]
  · rw [happ] at hv
    rcases List.mem_append.1 hv with hv | hv
    · exact h.nin v hv
    · rw [List.mem_singleton.1 hv]
      exact hr
  · rw [happ, List.pairwise_append]
    refine ⟨List.Pairwise.imp_of_mem (fun {x y} hx hy hxy => by rw [hsame x hx, hsame y hy]; exact hxy) h.srt, List.pairwise_singleton _ _, fun x hx y hy => ?_⟩
    rw [List.mem_singleton.1 hy, hsame x hx, hG s hr.1, if_pos rfl]
    exact h.top c R rfl x hx
  · injection e with e1 e2
    subst e1
    rw [hsame c hcm]
    rw [happ] at hv
    rcases List.mem_append.1 hv with hv | hv
    · rw [hsame v hv]
      exact h.top c R rfl v hv
    · rw [List.mem_singleton.1 hv, hG s hr.1, if_pos rfl]
      omega
  · have := h.clo v hv u hu
    rw [hsame v (List.mem_append.2 (Or.inl hv)), hG u (hE u v hu).1, if_neg (by rintro rfl; omega)]
    exact this
  · rw [hG goal hg.1, if_neg (by rintro rfl; have := h.goal0; omega)]
    exact h.goal0
  · have := count_setI O s (rd O c + 1) (-1) hr.1 (by omega) h1 (by omega)
    have := h.cnt
    rw [happ, List.length_append, List.length_singleton]
    omega
theorem QI.next {E : Int → Int → Prop} {goal : Int} {O P R : List Int} {c : Int} (h : QI E goal O P (c :: R)) (hs : ∀ u, E u c → 0 ≤ rd O u ∧ rd O u ≤ rd O c + 1) : QI E goal O (P ++ [c]) R := by
  have happ : (P ++ [c]) ++ R = P ++ (c :: R) := by simp
  refine ⟨h.len, by rw [happ]; exact h.val, by rw [happ]; exact h.mem, by rw [happ]; exact h.nin, by rw [happ]; exact h.srt, fun c' R' e v hv => ?_, fun v hv u hu => ?_, h.goal0, by rw [happ]; exact h.cnt⟩
  · rw [happ] at hv
    have h1 := h.top c R rfl v hv
    have h2 := h.srt
    rw [e, List.pairwise_append] at h2
    have h3 := (List.pairwise_cons.1 h2.2.1).1 c' List.mem_cons_self
    omega
  · rcases List.mem_append.1 hv with hv | hv
    · exact h.clo v hv u hu
    · rw [List.mem_singleton.1 hv] at hu ⊢
      exact hs u hu
theorem QI.close {E : Int → Int → Prop} {goal : Int} {O P : List Int} (h : QI E goal O P []) (hE : ∀ x y, E x y → 0 ≤ x ∧ x ≤ 127) (hg : 0 ≤ goal ∧ goal ≤ 127) : ∀ (n : Nat) (v : Int), Wk E n v goal → (0 ≤ v ∧ v ≤ 127) ∧ 0 ≤ rd O v ∧ rd O v ≤ (n : Int)
  | 0, v, hw => by
    have e : v = goal := hw
    rw [e, h.goal0]
    exact ⟨hg, by omega, by omega⟩
  | n + 1, v, ⟨b, hb, hw⟩ => by
    obtain ⟨h1, h2, h3⟩ := h.close hE hg n b hw
    have hm := (h.mem b h1.1 h1.2).2 h2
    rw [List.append_nil] at hm
    have := h.clo b hm v hb
    exact ⟨hE v b hb, this.1, by omega⟩
theorem QI.dt {E : Int → Int → Prop} {goal : Int} {O P : List Int} (h : QI E goal O P []) (hE : ∀ x y, E x y → 0 ≤ x ∧ x ≤ 127) (hg : 0 ≤ goal ∧ goal ≤ 127) (v : Int) (v0 : 0 ≤ v) (v1 : v ≤ 127) : DT E goal v (rd O v) ∧ rd O v ≤ 127 := by
  have hv := h.val v v0 v1
  have hc := h.cnt
  refine ⟨?_, by omega⟩
  by_cases h0 : 0 ≤ rd O v
  · refine Or.inr ⟨(rd O v).toNat, by omega, hv.2.2 h0, fun j hj hw => ?_⟩
    have := (h.close hE hg j v hw).2
    omega
  · refine Or.inl ⟨by omega, fun n hw => ?_⟩
    have := (h.close hE hg n v hw).2
    omega
theorem dist_l1 (l : List S94) (hl : l.length ≤ 1048576) (hd : ∀ x ∈ l, dIn x) (goal least : Int) (hg : 0 ≤ goal ∧ goal ≤ 127) (c : Int) (P : List Int) (G : List Int → Prop) : ∀ (rest pre : List S94) (O R : List Int), l = pre ++ rest →
    QI (adjF (adjL l) least) goal O P (c :: R) → (∀ x ∈ pre, x.f1 = c → least ≤ x.f0 → 0 ≤ rd O x.f0 ∧ rd O x.f0 ≤ rd O c + 1) →
    (∀ O' R', QI (adjF (adjL l) least) goal O' P (c :: R') → (∀ x ∈ l, x.f1 = c → least ≤ x.f0 → 0 ≤ rd O' x.f0 ∧ rd O' x.f0 ≤ rd O' c + 1) → ∃ r, G r ∧ Ev (fun k => impl_distancesTo.l0 k l least O' (P ++ c :: R') (wrap64 ((P.length : Int) + 1))) r) →
    ∃ r, G r ∧ Ev (fun k => impl_distancesTo.l1 k l least O (P ++ c :: R) (P.length : Int) l (l.length : Int) (pre.length : Int)) r
  | [], pre, O, R, e, hi, hp, hk => by
    rw [List.append_nil] at e
    obtain ⟨r, hG, this⟩ := hk O R hi (by rw [e]; exact e ▸ hp)
    refine ⟨r, hG, Ev.suc ?_⟩
    simp only [impl_distancesTo.l1]
    exact Ev.ite_neg (by rw [e]; omega) this
  | x :: rest, pre, O, R, e, hi, hp, hk => by
    have hlen : pre.length + (rest.length + 1) = l.length := by rw [e]; simp
    have h1 : (pre.length : Int) < (l.length : Int) := by omega
    have hw : wrap64 ((pre.length : Int) + 1) = ((pre ++ [x]).length : Int) := by rw [w64 (by omega) (by omega), len_snoc]
    have hx : rd_T94 l (pre.length : Int) = x := by rw [e]; exact rdI_Depend pre x rest
    have hxm : x ∈ l := by rw [e]; exact List.mem_append.2 (Or.inr List.mem_cons_self)
    have hxr := hd x hxm
    have hE : ∀ x y, adjF (adjL l) least x y → 0 ≤ x ∧ x ≤ 127 := fun x y h => (adjL_in hd h.1).1
    have hq : rd (P ++ c :: R) (P.length : Int) = c := rd_mid P c R
    have hql : (P.length : Int) < ((P ++ c :: R).length : Int) := by simp only [List.length_append, List.length_cons]; omega
    have hOl := hi.len
    have hcm : c ∈ P ++ (c :: R) := List.mem_append.2 (Or.inr List.mem_cons_self)
    have hcr := hi.nin c hcm
    have hcnt := hi.cnt
    have hcv := hi.val c hcr.1 hcr.2
    have e' : l = (pre ++ [x]) ++ rest := by rw [e]; simp
    have hskip : (x.f1 = c → least ≤ x.f0 → 0 ≤ rd O x.f0 ∧ rd O x.f0 ≤ rd O c + 1) → ∃ r, G r ∧ Ev (fun k => impl_distancesTo.l1 k l least O (P ++ c :: R) (P.length : Int) l (l.length : Int) ((pre ++ [x]).length : Int)) r := fun hx' =>
      dist_l1 l hl hd goal least hg c P G rest (pre ++ [x]) O R e' hi (fun y hy => by
        rcases List.mem_append.1 hy with hy | hy
        · exact hp y hy
        · rw [List.mem_singleton.1 hy]
          exact hx') hk
    by_cases q1 : x.f1 = c
    · by_cases q2 : least ≤ x.f0
      · by_cases q3 : rd O x.f0 < 0
        · have hs : adjF (adjL l) least x.f0 c := ⟨⟨x, hxm, rfl, q1⟩, q2⟩
          have hi' := hi.put hE hg hs q3
          have hG' : ∀ u, 0 ≤ u → rd (O.set x.f0.toNat (rd O c + 1)) u = if u = x.f0 then rd O c + 1 else rd O u := fun u hu => rd_setI O x.f0 _ u hxr.1.1 (by omega) hu
          have hc0 := (hi.mem c hcr.1 hcr.2).1 hcm
          have hcx : ¬ c = x.f0 := by rintro rfl; omega
          obtain ⟨r, hG, ih⟩ := dist_l1 l hl hd goal least hg c P G rest (pre ++ [x]) (O.set x.f0.toNat (rd O c + 1)) (R ++ [x.f0]) e' hi' (fun y hy hy1 hy2 => by
            have hyl : y ∈ l := by rw [e']; exact List.mem_append.2 (Or.inl hy)
            have hyr := hd y hyl
            rw [hG' c hcr.1, if_neg hcx, hG' y.f0 hyr.1.1]
            by_cases ey : y.f0 = x.f0
            · rw [if_pos ey]; omega
            · rw [if_neg ey]
              rcases List.mem_append.1 hy with hy | hy
              · exact hp y hy hy1 hy2
              · rw [List.mem_singleton.1 hy] at ey
                exact absurd rfl ey) hk
          refine ⟨r, hG, Ev.suc ?_⟩
          have hw2 : wrap64 (rd O c + 1) = rd O c + 1 := w64 (by omega) (by omega)
          have happ : (P ++ c :: R) ++ [x.f0] = P ++ c :: (R ++ [x.f0]) := by simp
          simp only [impl_distancesTo.l1, hx, hw, hq, hw2, happ]
          exact Ev.ite_pos h1 (Ev.ite_pos (by omega) (Ev.ite_pos h1 (Ev.ite_pos (by omega) (Ev.ite_pos hql (Ev.ite_pos q1 (Ev.ite_pos q2 (Ev.ite_pos hxr.1.1 (Ev.ite_pos (by omega) (Ev.ite_pos q3 (Ev.ite_pos hcr.1 (Ev.ite_pos (by omega) (Ev.ite_pos (by omega) ih))))))))))))
        · obtain ⟨r, hG, ih⟩ := hskip (fun _ _ => ⟨by omega, by
            have hm := (hi.mem x.f0 hxr.1.1 hxr.1.2).2 (by omega)
            exact hi.top c R rfl _ hm⟩)
          refine ⟨r, hG, Ev.suc ?_⟩
          simp only [impl_distancesTo.l1, hx, hw, hq]
          exact Ev.ite_pos h1 (Ev.ite_pos (by omega) (Ev.ite_pos h1 (Ev.ite_pos (by omega) (Ev.ite_pos hql (Ev.ite_pos q1 (Ev.ite_pos q2 (Ev.ite_pos hxr.1.1 (Ev.ite_pos (by omega) (Ev.ite_neg q3 ih)))))))))
      · obtain ⟨r, hG, ih⟩ := hskip (fun _ h => absurd h q2)
        refine ⟨r, hG, Ev.suc ?_⟩
        simp only [impl_distancesTo.l1, hx, hw, hq]
        exact Ev.ite_pos h1 (Ev.ite_pos (by omega) (Ev.ite_pos h1 (Ev.ite_pos (by omega) (Ev.ite_pos hql (Ev.ite_pos q1 (Ev.ite_neg q2 ih))))))
    · obtain ⟨r, hG, ih⟩ := hskip (fun h => absurd h q1)
      refine ⟨r, hG, Ev.suc ?_⟩
      simp only [impl_distancesTo.l1, hx, hw, hq]
      exact Ev.ite_pos h1 (Ev.ite_pos (by omega) (Ev.ite_pos h1 (Ev.ite_pos (by omega) (Ev.ite_pos hql (Ev.ite_neg q1 ih)))))
theorem dist_l0 (l : List S94) (hl : l.length ≤ 1048576) (hd : ∀ x ∈ l, dIn x) (goal least : Int) (hg : 0 ≤ goal ∧ goal ≤ 127) (d : Nat) : ∀ (O P T : List Int), P.length + d = 128 → QI (adjF (adjL l) least) goal O P T →
    ∃ O', (O'.length = 128 ∧ ∀ v, 0 ≤ v → v ≤ 127 → DT (adjF (adjL l) least) goal v (rd O' v) ∧ rd O' v ≤ 127) ∧ Ev (fun k => impl_distancesTo.l0 k l least O (P ++ T) (P.length : Int)) O' := by
  have hE : ∀ x y, adjF (adjL l) least x y → 0 ≤ x ∧ x ≤ 127 := fun x y h => (adjL_in hd h.1).1
  induction d with
  | zero =>
    intro O P T hd0 hi
    have hc := hi.cnt
    rw [List.length_append] at hc
    have e : T = [] := List.eq_nil_of_length_eq_zero (by omega)
    subst e
    refine ⟨O, ⟨hi.len, hi.dt hE hg⟩, Ev.suc ?_⟩
    simp only [impl_distancesTo.l0]
    exact Ev.ite_neg (by simp) (Ev.now _)
  | succ d ih =>
    intro O P T hd0 hi
    cases T with
    | nil =>
      refine ⟨O, ⟨hi.len, hi.dt hE hg⟩, Ev.suc ?_⟩
      simp only [impl_distancesTo.l0]
      exact Ev.ite_neg (by simp) (Ev.now _)
    | cons c R =>
      have hw : wrap64 ((P.length : Int) + 1) = ((P ++ [c]).length : Int) := by rw [w64 (by omega) (by omega), len_snoc]
      have hql : (P.length : Int) < ((P ++ c :: R).length : Int) := by simp only [List.length_append, List.length_cons]; omega
      obtain ⟨r, hG, hr⟩ := dist_l1 l hl hd goal least hg c P (fun O' => O'.length = 128 ∧ ∀ v, 0 ≤ v → v ≤ 127 → DT (adjF (adjL l) least) goal v (rd O' v) ∧ rd O' v ≤ 127) l [] O R rfl hi (fun x hx => by cases hx) (fun O' R' hi' hp' => by
        rw [hw, show P ++ c :: R' = (P ++ [c]) ++ R' by simp]
        exact ih O' (P ++ [c]) R' (by rw [List.length_append, List.length_singleton]; omega) (hi'.next (fun u hu => by
          obtain ⟨⟨x, hx, rfl, hx1⟩, hx2⟩ := hu
          exact hp' x hx hx1 hx2)))
      refine ⟨r, hG, Ev.suc ?_⟩
      simp only [impl_distancesTo.l0]
      exact Ev.ite_pos hql hr
theorem dist_i (l : List S94) (hl : l.length ≤ 1048576) (hd : ∀ x ∈ l, dIn x) (goal least : Int) (hg : 0 ≤ goal ∧ goal ≤ 127) :
    ∃ O, (O.length = 128 ∧ ∀ v, 0 ≤ v → v ≤ 127 → DT (adjF (adjL l) least) goal v (rd O v) ∧ rd O v ≤ 127) ∧ Ev (fun k => impl_distancesTo.f k l goal least) O := by
  have hz : ∀ v, 0 ≤ v → v ≤ 127 → rd (List.replicate 128 (-1 : Int)) v = -1 := fun v h0 h1 => by
    rw [rd_eq, List.getD_eq_getElem?_getD, List.getElem?_replicate, if_pos (by omega)]
    rfl
  have hlr : ((List.replicate 128 (-1 : Int)).length : Int) = 128 := by simp
  have hG : ∀ u, 0 ≤ u → rd ((List.replicate 128 (-1 : Int)).set goal.toNat 0) u = if u = goal then 0 else rd (List.replicate 128 (-1 : Int)) u := fun u hu => rd_setI _ goal _ u hg.1 (by omega) hu
  have hi : QI (adjF (adjL l) least) goal ((List.replicate 128 (-1 : Int)).set goal.toNat 0) [] [goal] := by
    refine ⟨by simp, fun v v0 v1 => ?_, fun v v0 v1 => ?_, fun v hv => ?_, by simp, fun c R e v hv => ?_, fun v hv => (by cases hv), ?_, ?_⟩
    · rw [hG v v0]
      by_cases e : v = goal
      · rw [if_pos e]
        exact ⟨by omega, by simp, fun _ => e⟩
      · rw [if_neg e, hz v v0 v1]
        exact ⟨by omega, by simp, fun h => by omega⟩
    · rw [hG v v0]
      by_cases e : v = goal
      · simp [e]
      · rw [if_neg e, hz v v0 v1]
        simp [e]
    · rw [List.nil_append, List.mem_singleton] at hv
      rw [hv]
      exact hg
    · injection e with e1 e2
      rw [List.nil_append, List.mem_singleton] at hv
      rw [← e1, hv]
      omega
    · rw [hG goal hg.1, if_pos rfl]
    · have := count_setI (List.replicate 128 (-1 : Int)) goal 0 (-1) hg.1 (by omega) (hz goal hg.1 hg.2) (by omega)
      rw [List.count_replicate_self] at this
      simp only [List.nil_append, List.length_singleton]
      omega
  obtain ⟨O, hO, hr⟩ := dist_l0 l hl hd goal least hg 128 _ [] [goal] (by simp) hi
  refine ⟨O, hO, ?_⟩
  unfold impl_distancesTo.f slices_Repeat_int_int.f
  rw [if_pos ⟨rfl, rfl⟩]
  simp only [Option.bind_some]
  exact Ev.ite_pos hg.1 (Ev.ite_pos (by omega) hr)

/-! ### dependsOk_i -/
theorem compare_f (a b c d : Int) (ha : 0 ≤ a ∧ a ≤ 127) (hb : 0 ≤ b ∧ b ≤ 127) (hc : 0 ≤ c ∧ c ≤ 127) (hd : 0 ≤ d ∧ d ≤ 127) : ∃ r, impl_compareDepends.f a b c d = some r ∧ (r ≥ 0 ↔ ¬ (a < c ∨ (a = c ∧ b < d))) := by
  unfold impl_compareDepends.f
  by_cases h2 : a = c
  · refine ⟨b - d, ?_, by omega⟩
    rw [if_pos h2, w64 (by omega) (by omega)]
  · refine ⟨a - c, ?_, by omega⟩
    rw [if_neg h2, w64 (by omega) (by omega)]
theorem DependsOk_i_go : ∀ (rest p : List S94) (y : S94), dIn y → (p ++ [y]).length + rest.length < 1152921504606846976 →
    Ev (fun k => impl_DependsOk.l0 k (p ++ [y] ++ rest) (p ++ [y] ++ rest) ((p ++ [y] ++ rest).length : Int) ((p ++ [y]).length : Int)) (dGo y rest)
  | [], p, y, _, _ => by
    refine Ev.suc ?_
    simp only [impl_DependsOk.l0]
    exact Ev.ite_neg (by simp) (Ev.val rfl)
  | x :: rest, p, y, hyI, hl => by
    simp only [List.length_cons] at hl
    obtain ⟨hp, hy⟩ := prev_rd p y x rest (by omega)
    have hx := rdI_Depend (p ++ [y]) x rest
    have h1 : ((p ++ [y]).length : Int) < ((p ++ [y] ++ x :: rest).length : Int) := by simp only [List.length_append, List.length_cons]; omega
    have h2 : (p.length : Int) < ((p ++ [y] ++ x :: rest).length : Int) := by simp only [List.length_append, List.length_cons]; omega
    have h3 : ((p ++ [y]).length : Int) > 0 := by simp only [List.length_append, List.length_cons]; omega
    have hw : wrap64 (((p ++ [y]).length : Int) + 1) = ((p ++ [y] ++ [x]).length : Int) := by
      have e : ((p ++ [y] ++ [x]).length : Int) = ((p ++ [y]).length : Int) + 1 := len_snoc (p ++ [y]) x
      rw [e]
      exact w64 (by omega) (by omega)
    refine Ev.suc ?_
    simp only [impl_DependsOk.l0, hp, hy, hx, hw, inside_f, Option.bind_some, decide_eq_true_eq]
    rw [dGo_cons]
    refine Ev.ite_pos h1 (Ev.ite_pos (by omega) (Ev.ite_pos h1 (Ev.ite (fun c1 => Ev.ite (fun c2 => Ev.ite_pos h3 (Ev.ite_pos (by omega) (Ev.ite_pos h2 ?_))) (fun c2 => Ev.val ?_)) (fun c1 => Ev.val ?_))))
    · obtain ⟨r, e, hr⟩ := compare_f y.f0 y.f1 x.f0 x.f1 hyI.1 hyI.2 c1 c2
      have ih := DependsOk_i_go rest (p ++ [y]) x ⟨c1, c2⟩ (by simp only [List.length_append, List.length_cons, List.length_nil] at hl ⊢; omega)
      rw [← snoc_app (p ++ [y]) x rest] at ih
      simp only [e, Option.bind_some]
      refine Ev.ite (fun c3 => Ev.val ?_) (fun c3 => Ev.eq ih ?_)
      · rw [decide_eq_false (show ¬ dLt y x from hr.1 c3), Bool.false_and, Bool.and_false]
      · rw [decide_eq_true (show dIn x from ⟨c1, c2⟩), decide_eq_true (show dLt y x from Decidable.not_not.1 (fun z => c3 (hr.2 z))), Bool.true_and, Bool.true_and]
    · rw [decide_eq_false (show ¬ dIn x from fun z => c2 z.2), Bool.false_and]
    · rw [decide_eq_false (show ¬ dIn x from fun z => c1 z.1), Bool.false_and]
theorem DependsOk_i (l : List S94) (hl : l.length ≤ 1048576) : Ev (fun k => impl_DependsOk.f k l) (dAll l) := by
  unfold impl_DependsOk.f
  cases l with
  | nil =>
    refine Ev.suc ?_
    simp only [impl_DependsOk.l0]
    exact Ev.ite_neg (by simp) (Ev.val rfl)
  | cons x r =>
    have hx : rd_T94 (x :: r) 0 = x := rfl
    have hw : wrap64 ((0 : Int) + 1) = (([] ++ [x] : List S94).length : Int) := w64 (by omega) (by omega)
    have h1 : (0 : Int) < ((x :: r).length : Int) := by simp only [List.length_cons]; omega
    refine Ev.suc ?_
    simp only [impl_DependsOk.l0, hx, hw, inside_f, Option.bind_some, decide_eq_true_eq]
    rw [dAll_cons]
    refine Ev.ite_pos h1 (Ev.ite_pos (by omega) (Ev.ite_pos h1 (Ev.ite (fun c1 => Ev.ite (fun c2 => Ev.ite_neg (by omega) (Ev.eq (DependsOk_i_go r [] x ⟨c1, c2⟩ (by simp at hl ⊢; omega)) ?_)) (fun c2 => Ev.val ?_)) (fun c1 => Ev.val ?_))))
    · rw [decide_eq_true (show dIn x from ⟨c1, c2⟩), Bool.true_and]
    · rw [decide_eq_false (show ¬ dIn x from fun z => c2 z.2), Bool.false_and]
    · rw [decide_eq_false (show ¬ dIn x from fun z => c1 z.1), Bool.false_and]

/-! ### succ_i -/
theorem succ_i_l0 (a : Int) : ∀ (rest pre : List S94) (acc : List Int), pre.length + rest.length ≤ 1048576 → acc.length + rest.length ≤ 1048576 → Ev (fun k => impl_SuccessorsOf.l0 k a acc (pre ++ rest) ((pre ++ rest).length : Int) (pre.length : Int)) (acc ++ su rest a)
  | [], pre, acc, _, _ => by
    refine Ev.suc ?_
    simp only [impl_SuccessorsOf.l0]
    exact Ev.ite_neg (by simp) (Ev.val (by simp [su]))
  | x :: rest, pre, acc, hl, ha => by
    simp only [List.length_cons] at hl ha
    have h1 : (pre.length : Int) < ((pre ++ x :: rest).length : Int) := by simp only [List.length_append, List.length_cons]; omega
    have hw : wrap64 ((pre.length : Int) + 1) = ((pre ++ [x]).length : Int) := by rw [w64 (by omega) (by omega), len_snoc]
    refine Ev.suc ?_
    simp only [impl_SuccessorsOf.l0, rdI_Depend, hw]
    refine Ev.ite_pos h1 (Ev.ite_pos (by omega) (Ev.ite_pos h1 (Ev.ite (fun c => Ev.ite_pos (by omega) ?_) (fun c => ?_))))
    · have ih := succ_i_l0 a rest (pre ++ [x]) (acc ++ [x.f1]) (by simp only [List.length_append, List.length_cons, List.length_nil]; omega) (by simp only [List.length_append, List.length_cons, List.length_nil]; omega)
      rw [← snoc_app pre x rest] at ih
      exact Ev.eq ih (by rw [su_cons_pos x rest a c, List.append_assoc]; rfl)
    · have ih := succ_i_l0 a rest (pre ++ [x]) acc (by simp only [List.length_append, List.length_cons, List.length_nil]; omega) (by omega)
      rw [← snoc_app pre x rest] at ih
      exact Ev.eq ih (by rw [su_cons_neg x rest a c])
theorem succ_i (l : List S94) (a : Int) (hl : l.length ≤ 1048576) : Ev (fun k => impl_SuccessorsOf.f k l a) (su l a) := by
  unfold impl_SuccessorsOf.f
  exact succ_i_l0 a l [] [] (by simpa using hl) (by simpa using hl)

/-! ### short_i -/
/-- The nearest successor so far, the first of those as near. -/
def Near (fr : Int → Int) (s : Int) (S : List Int) (b : Int) : Prop := (b = -1 ∧ ∀ c ∈ S, s ≤ c → fr c < 0) ∨ (b ∈ S ∧ s ≤ b ∧ 0 ≤ fr b ∧ (∀ c ∈ S, s ≤ c → 0 ≤ fr c → fr b ≤ fr c) ∧ S.find? (okF fr s (fr b).toNat) = some b)
theorem Near.skip {fr : Int → Int} {s b u : Int} {S : List Int} (h : Near fr s S b) (hu : s ≤ u → 0 ≤ fr u → b ≠ -1 ∧ fr b ≤ fr u) (hs : 0 ≤ s) : Near fr s (S ++ [u]) b := by
  rcases h with ⟨rfl, h⟩ | ⟨h1, h2, h3, h4, h5⟩
  · refine Or.inl ⟨rfl, fun c hc hsc => ?_⟩
    rcases List.mem_append.1 hc with hc | hc
    · exact h c hc hsc
    · rw [List.mem_singleton.1 hc] at hsc ⊢
      rcases Int.lt_or_le (fr u) 0 with e | e
      · exact e
      · exact absurd rfl (hu hsc e).1
  · refine Or.inr ⟨List.mem_append.2 (Or.inl h1), h2, h3, fun c hc hsc hc0 => ?_, ?_⟩
    · rcases List.mem_append.1 hc with hc | hc
      · exact h4 c hc hsc hc0
      · rw [List.mem_singleton.1 hc] at hsc hc0 ⊢
        exact (hu hsc hc0).2
    · rw [List.find?_append, h5]
      rfl
theorem Near.take {fr : Int → Int} {s b u : Int} {S : List Int} (h : Near fr s S b) (hs : s ≤ u) (hu : 0 ≤ fr u) (hb : b = -1 ∨ fr u < fr b) (hs0 : 0 ≤ s) : Near fr s (S ++ [u]) u := by
  refine Or.inr ⟨List.mem_append.2 (Or.inr (List.mem_singleton.2 rfl)), hs, hu, fun c hc hsc hc0 => ?_, ?_⟩
  · rcases List.mem_append.1 hc with hc | hc
    · rcases h with ⟨_, h⟩ | ⟨h1, h2, h3, h4, h5⟩
      · have := h c hc hsc
        omega
      · have := h4 c hc hsc hc0
        rcases hb with hb | hb
        · subst hb
          omega
        · omega
    · rw [List.mem_singleton.1 hc]
      omega
  · have e : S.find? (okF fr s (fr u).toNat) = none := List.find?_eq_none.2 fun c hc hp => by
      have hp' := of_decide_eq_true hp
      rcases h with ⟨_, h⟩ | ⟨h1, h2, h3, h4, h5⟩
      · have := h c hc hp'.1
        omega
      · have := h4 c hc hp'.1 (by omega)
        rcases hb with hb | hb
        · subst hb
          omega
        · omega
    rw [List.find?_append, e]
    have hp : okF fr s (fr u).toNat u = true := decide_eq_true ⟨hs, by omega⟩
    simp only [List.find?_cons, hp, Option.none_or]
theorem Near.noneg {fr : Int → Int} {s b : Int} {S : List Int} (h : Near fr s S b) (hs : 0 ≤ s) : b = -1 ∨ 0 ≤ b := by
  rcases h with ⟨rfl, _⟩ | ⟨_, h2, _⟩
  · exact Or.inl rfl
  · exact Or.inr (by omega)
theorem cyc_l1 (l : List S94) (s : Int) (hs : 0 ≤ s) (O : List Int) (hO : O.length = 128) (out : List Int) (a : Int) (r : List Int) (S : List Int)
    (hk : ∀ b, Near (rd O) s S b → Ev (fun k => if b < 0 then (some ([] : List Int)) else (if out.length < 17592186044416 then ((some (out ++ [a] : List Int)).bind fun y => (if b = s then (some y) else (impl_cycleFrom.l0 k l s O y b))) else none)) r) :
    ∀ (rest pre : List Int) (b : Int), S = pre ++ rest → S.length ≤ 1048576 → (∀ u ∈ S, 0 ≤ u ∧ u ≤ 127) → Near (rd O) s pre b → Ev (fun k => impl_cycleFrom.l1 k l s O out a b S (S.length : Int) (pre.length : Int)) r
  | [], pre, b, e, hl, hr, hb => by
    rw [List.append_nil] at e
    refine Ev.suc ?_
    simp only [impl_cycleFrom.l1]
    exact Ev.ite_neg (by rw [e]; omega) (hk b (e ▸ hb))
  | u :: rest, pre, b, e, hl, hr, hb => by
    have hlen : pre.length + (rest.length + 1) = S.length := by rw [e]; simp
    have hu := hr u (by rw [e]; exact List.mem_append.2 (Or.inr List.mem_cons_self))
    have h1 : (pre.length : Int) < (S.length : Int) := by omega
    have hw : wrap64 ((pre.length : Int) + 1) = ((pre ++ [u]).length : Int) := by rw [w64 (by omega) (by omega), len_snoc]
    have hx : rd S (pre.length : Int) = u := by rw [e]; exact rd_mid pre u rest
    have e' : S = (pre ++ [u]) ++ rest := by rw [e]; simp
    have go := fun b' hb' => cyc_l1 l s hs O hO out a r S hk rest (pre ++ [u]) b' e' hl hr hb'
    have hn := hb.noneg hs
    refine Ev.suc ?_
    simp only [impl_cycleFrom.l1, hx, hw]
    refine Ev.ite_pos h1 (Ev.ite_pos (by omega) (Ev.ite_pos h1 (Ev.ite (fun q1 => Ev.ite_pos hu.1 (Ev.ite_pos (by omega) (Ev.ite (fun q2 => Ev.ite (fun q3 => go u (hb.take q1 q2 (Or.inl (by omega)) hs)) (fun q3 => ?_)) (fun q2 => go b (hb.skip (fun _ h => absurd h q2) hs))))) (fun q1 => go b (hb.skip (fun h _ => absurd h q1) hs)))))
    have hb127 : b ≤ 127 := by
      rcases hb with ⟨h, _⟩ | ⟨h, _⟩
      · omega
      · exact (hr b (by rw [e]; exact List.mem_append.2 (Or.inl h))).2
    exact Ev.ite_pos (by omega) (Ev.ite_pos (by omega) (Ev.ite (fun q4 => go u (hb.take q1 q2 (Or.inr q4) hs)) (fun q4 => go b (hb.skip (fun _ _ => ⟨by omega, by omega⟩) hs))))
theorem adjF_ge {adj : Int → Int → Prop} {s : Int} : ∀ {n : Nat} {c : Int}, Wk (adjF adj s) n c s → s ≤ c
  | 0, c, h => by
    have e : c = s := h
    omega
  | _ + 1, _, ⟨_, hx, _⟩ => hx.2
theorem cyc_l0 (l : List S94) (hl : l.length ≤ 1048576) (hd : ∀ x ∈ l, dIn x) (s : Int) (hs : 0 ≤ s ∧ s ≤ 127) (O : List Int) (hO : O.length = 128) (hv : ∀ v, 0 ≤ v → v ≤ 127 → DT (adjF (adjL l) s) s v (rd O v) ∧ rd O v ≤ 127) :
    ∀ (n : Nat) (out : List Int) (a : Int), 0 ≤ a → a ≤ 127 → s ≤ a → rd O a = ((n + 1 : Nat) : Int) → out.length + n ≤ 1048576 → Ev (fun k => impl_cycleFrom.l0 k l s O out a) (out ++ pathF (su l) (okF (rd O) s) (n + 1) a)
  | n, out, a, h0, h1, hsa, hn, ho => by
    have hsu := succ_i l a hl
    have ha := (hv a h0 h1).1
    have hw := ha.walk (by omega)
    rw [hn, Int.toNat_natCast] at hw
    obtain ⟨c0, hc0, hw0⟩ := hw
    have hr0 := (adjL_in hd hc0.1).2
    have hc0' := (hv c0 hr0.1 hr0.2).1.le hw0
    have hsc0 := adjF_ge hw0
    refine Ev.suc ?_
    simp only [impl_cycleFrom.l0]
    refine Ev.bind hsu (cyc_l1 l s hs.1 O hO out a _ (su l a) (fun b hb => ?_) (su l a) [] (-1) rfl (by have := su_len l a; omega) (fun u hu => (adjL_in hd ((su_mem l a u).1 hu)).2) (Or.inl ⟨rfl, fun c hc => by cases hc⟩))
    rcases hb with ⟨rfl, hb⟩ | ⟨b1, b2, b3, b4, b5⟩
    · have := hb c0 ((su_mem l a c0).2 hc0.1) hsc0
      omega
    · have hbr := (adjL_in hd ((su_mem l a b).1 b1)).2
      have hle := b4 c0 ((su_mem l a c0).2 hc0.1) hsc0 hc0'.1
      have hge := ha.le (Wk.cons (adj := adjF (adjL l) s) ⟨(su_mem l a b).1 b1, hsa⟩ ((hv b hbr.1 hbr.2).1.walk b3))
      have hbn : rd O b = (n : Int) := by omega
      rw [hbn, Int.toNat_natCast] at b5
      rw [pathF_some b5]
      have hlt : out.length < 17592186044416 := Nat.lt_of_le_of_lt (Nat.le_trans (Nat.le_add_right _ _) ho) (by decide)
      refine Ev.ite_neg (by omega) (Ev.ite_pos hlt ?_)
      simp only [Option.bind_some]
      cases n with
      | zero =>
        have e : b = s := by
          have h9 := (hv b hbr.1 hbr.2).1
          rw [hbn] at h9
          exact h9.zero
        exact Ev.ite_pos e (Ev.val (by simp [pathF]))
      | succ n =>
        have hne : b ≠ s := fun e => by
          have h9 := (hv b hbr.1 hbr.2).1
          rw [e] at h9 hbn
          have := h9.self
          omega
        refine Ev.ite_neg hne ?_
        have ih := cyc_l0 l hl hd s hs O hO hv n (out ++ [a]) b hbr.1 hbr.2 b2 hbn (by rw [List.length_append, List.length_singleton]; omega)
        rw [List.append_assoc] at ih
        exact ih
theorem path_len (l : List S94) (hd : ∀ x ∈ l, dIn x) (s : Int) (O : List Int) (hv : ∀ v, 0 ≤ v → v ≤ 127 → DT (adjF (adjL l) s) s v (rd O v) ∧ rd O v ≤ 127) :
    ∀ (n : Nat) (a : Int), 0 ≤ a → a ≤ 127 → s ≤ a → rd O a = (n : Int) → (pathF (su l) (okF (rd O) s) n a).length = n
  | 0, _, _, _, _, _ => rfl
  | n + 1, a, h0, h1, hsa, hn => by
    have ha := (hv a h0 h1).1
    have hw := ha.walk (by omega)
    rw [hn, Int.toNat_natCast] at hw
    obtain ⟨c0, hc0, hw0⟩ := hw
    have hr0 := (adjL_in hd hc0.1).2
    have hc0' := (hv c0 hr0.1 hr0.2).1.le hw0
    have hge := ha.le (Wk.cons hc0 ((hv c0 hr0.1 hr0.2).1.walk hc0'.1))
    obtain ⟨b, hb5, hb1, hbp⟩ := find_some (p := okF (rd O) s n) ⟨c0, (su_mem l a c0).2 hc0.1, decide_eq_true ⟨adjF_ge hw0, by omega⟩⟩
    have hbp' := of_decide_eq_true hbp
    have hbr := (adjL_in hd ((su_mem l a b).1 hb1)).2
    rw [pathF_some hb5, List.length_cons, path_len l hd s O hv n b hbr.1 hbr.2 hbp'.1 hbp'.2]
theorem cyc_len (l : List S94) (hd : ∀ x ∈ l, dIn x) (s : Int) (O : List Int) (hv : ∀ v, 0 ≤ v → v ≤ 127 → DT (adjF (adjL l) s) s v (rd O v) ∧ rd O v ≤ 127) (d : Nat) (a b : Int) (h : (su l a).find? (okF (rd O) s d) = some b) : (pathF (su l) (okF (rd O) s) (d + 1) a).length = d + 1 := by
  have hbp : okF (rd O) s d b = true := List.find?_some h
  have hbp' := of_decide_eq_true hbp
  have hbr := (adjL_in hd ((su_mem l a b).1 (List.mem_of_find?_eq_some h))).2
  rw [pathF_some h, List.length_cons, path_len l hd s O hv d b hbr.1 hbr.2 hbp'.1 hbp'.2]
/-- What 'cycleFrom' gives. -/
def CF (l : List S94) (s : Int) (P : List Int) : Prop := (P = [] ∧ ∀ n, 0 < n → ¬ Wk (adjF (adjL l) s) n s s) ∨
  (0 < P.length ∧ P.length ≤ 1048576 ∧ Wk (adjL l) P.length s s ∧ (∀ n, 0 < n → Wk (adjF (adjL l) s) n s s → P.length ≤ n) ∧ ∃ fr : Int → Int, (∀ a c, adjL l a c → DT (adjF (adjL l) s) s c (fr c)) ∧ P = pathF (su l) (okF fr s) P.length s)
theorem cyc_i (l : List S94) (hl : l.length ≤ 1048576) (hd : ∀ x ∈ l, dIn x) (s : Int) (hs : 0 ≤ s ∧ s ≤ 127) : ∃ P, Ev (fun k => impl_cycleFrom.f k l s) P ∧ CF l s P := by
  obtain ⟨O, ⟨hO, hv⟩, hOe⟩ := dist_i l hl hd s s hs
  have hsu := succ_i l s hl
  have fin : ∀ P, Ev (fun k => impl_cycleFrom.l0 k l s O [] s) P → Ev (fun k => impl_cycleFrom.f k l s) P := fun P h => by
    unfold impl_cycleFrom.f
    exact Ev.bind hOe h
  have hfr : ∀ a c, adjL l a c → DT (adjF (adjL l) s) s c (rd O c) := fun a c h => (hv c (adjL_in hd h).2.1 (adjL_in hd h).2.2).1
  by_cases hc : ∃ c, c ∈ su l s ∧ s ≤ c ∧ 0 ≤ rd O c
  · obtain ⟨c0, hc0, hsc0, hf0⟩ := hc
    -- the least
    obtain ⟨d, ⟨c1, hc1, hsc1, hf1⟩, _, hmin⟩ := least (P := fun d => ∃ c, c ∈ su l s ∧ s ≤ c ∧ rd O c = ((d : Nat) : Int)) (rd O c0).toNat ⟨c0, hc0, hsc0, by omega⟩
    obtain ⟨b, hb5, hb1, hbp⟩ := find_some (p := okF (rd O) s d) ⟨c1, hc1, decide_eq_true ⟨hsc1, hf1⟩⟩
    have hbp' := of_decide_eq_true hbp
    have hbr := (adjL_in hd ((su_mem l s b).1 hb1)).2
    have hbl := (hv b hbr.1 hbr.2).2
    have hbw := adjF.lift ((hv b hbr.1 hbr.2).1.walk (by omega))
    rw [hbp'.2, Int.toNat_natCast] at hbw
    have hall : ∀ c ∈ su l s, s ≤ c → 0 ≤ rd O c → (d : Int) ≤ rd O c := fun c h1 h2 h3 => by
      rcases Nat.lt_or_ge (rd O c).toNat d with e | e
      · exact absurd ⟨c, h1, h2, by omega⟩ (hmin _ e)
      · omega
    have hlen : (pathF (su l) (okF (rd O) s) (d + 1) s).length = d + 1 ∧ Ev (fun k => impl_cycleFrom.l0 k l s O [] s) (pathF (su l) (okF (rd O) s) (d + 1) s) := by
      refine ⟨?_, ?_⟩
      · exact cyc_len l hd s O hv d s b hb5
      · refine Ev.suc ?_
        simp only [impl_cycleFrom.l0]
        refine Ev.bind hsu (cyc_l1 l s hs.1 O hO [] s _ (su l s) (fun b' hb' => ?_) (su l s) [] (-1) rfl (by have := su_len l s; omega) (fun u hu => (adjL_in hd ((su_mem l s u).1 hu)).2) (Or.inl ⟨rfl, fun c hc => by cases hc⟩))
        rcases hb' with ⟨rfl, hb'⟩ | ⟨k1, k2, k3, k4, k5⟩
        · have := hb' b hb1 hbp'.1
          omega
        · have e1 := k4 b hb1 hbp'.1 (by omega)
          have e2 := hall b' k1 k2 k3
          have e3 : rd O b' = (d : Int) := by omega
          rw [e3, Int.toNat_natCast, hb5] at k5
          obtain rfl : b = b' := Option.some.inj k5
          rw [pathF_some hb5]
          refine Ev.ite_neg (by omega) (Ev.ite_pos (by decide) ?_)
          simp only [Option.bind_some]
          cases d with
          | zero =>
            have e : b = s := by
              have h9 := (hv b hbr.1 hbr.2).1
              rw [e3] at h9
              exact h9.zero
            exact Ev.ite_pos e (Ev.val (by simp [pathF]))
          | succ d =>
            have hne : b ≠ s := fun e => by
              have h9 := (hv b hbr.1 hbr.2).1
              rw [e] at h9 e3
              have := h9.self
              omega
            refine Ev.ite_neg hne ?_
            have := cyc_l0 l hl hd s hs O hO hv d ([] ++ [s]) b hbr.1 hbr.2 k2 e3 (by simp; omega)
            exact this
    refine ⟨_, fin _ hlen.2, Or.inr ?_⟩
    rw [hlen.1]
    refine ⟨by omega, by omega, Wk.cons ((su_mem l s b).1 hb1) hbw, fun n hn hw => ?_, rd O, hfr, rfl⟩
    obtain ⟨m, rfl⟩ : ∃ m, n = m + 1 := ⟨n - 1, by omega⟩
    obtain ⟨c, hc, hw⟩ := hw
    have hcr := (adjL_in hd hc.1).2
    have h9 := (hv c hcr.1 hcr.2).1.le hw
    have := hall c ((su_mem l s c).2 hc.1) (adjF_ge hw) h9.1
    omega
  · refine ⟨[], fin _ (Ev.suc ?_), Or.inl ⟨rfl, fun n hn hw => ?_⟩⟩
    · simp only [impl_cycleFrom.l0]
      refine Ev.bind hsu (cyc_l1 l s hs.1 O hO [] s _ (su l s) (fun b hb => ?_) (su l s) [] (-1) rfl (by have := su_len l s; omega) (fun u hu => (adjL_in hd ((su_mem l s u).1 hu)).2) (Or.inl ⟨rfl, fun c hc => by cases hc⟩))
      rcases hb with ⟨rfl, _⟩ | ⟨k1, k2, k3, _⟩
      · exact Ev.ite_pos (by omega) (Ev.now _)
      · exact absurd ⟨b, k1, k2, k3⟩ hc
    · obtain ⟨m, rfl⟩ : ∃ m, n = m + 1 := ⟨n - 1, by omega⟩
      obtain ⟨c, hc1, hw⟩ := hw
      have hcr := (adjL_in hd hc1.1).2
      exact hc ⟨c, (su_mem l s c).2 hc1.1, adjF_ge hw, ((hv c hcr.1 hcr.2).1.le hw).1⟩
/-- What is known of the starts below x. -/
def SO (l : List S94) (x : Int) (out : List Int) : Prop := (out = [] ∧ ∀ s, 0 ≤ s → s < x → ∀ n, 0 < n → ¬ Wk (adjF (adjL l) s) n s s) ∨
  ∃ s0, out ≠ [] ∧ 0 ≤ s0 ∧ s0 < x ∧ CF l s0 out ∧ (∀ s n, 0 ≤ s → s < x → 0 < n → Wk (adjF (adjL l) s) n s s → out.length ≤ n) ∧ (∀ s n, 0 ≤ s → s < s0 → 0 < n → Wk (adjF (adjL l) s) n s s → out.length < n)
theorem CF.nil {l : List S94} {s : Int} (h : CF l s []) : ∀ n, 0 < n → ¬ Wk (adjF (adjL l) s) n s s := by
  rcases h with ⟨_, h⟩ | ⟨h, _⟩
  · exact h
  · simp at h
theorem CF.min {l : List S94} {s : Int} {P : List Int} (h : CF l s P) (hP : P ≠ []) : ∀ n, 0 < n → Wk (adjF (adjL l) s) n s s → P.length ≤ n := by
  rcases h with ⟨h, _⟩ | ⟨_, _, _, h, _⟩
  · exact absurd h hP
  · exact h
theorem SO.skip {l : List S94} {x : Int} {out : List Int} (h : SO l x out) (hx : ∀ n, 0 < n → Wk (adjF (adjL l) x) n x x → out ≠ [] ∧ out.length ≤ n) : SO l (x + 1) out := by
  rcases h with ⟨rfl, h⟩ | ⟨s0, h1, h2, h3, h4, h5, h6⟩
  · refine Or.inl ⟨rfl, fun s hs0 hs n hn hw => ?_⟩
    by_cases e : s = x
    · subst e
      exact (hx n hn hw).1 rfl
    · exact h s hs0 (by omega) n hn hw
  · refine Or.inr ⟨s0, h1, h2, by omega, h4, fun s n hs0 hs hn hw => ?_, h6⟩
    by_cases e : s = x
    · subst e
      exact (hx n hn hw).2
    · exact h5 s n hs0 (by omega) hn hw
theorem SO.take {l : List S94} {x : Int} {out own : List Int} (h : SO l x out) (h0 : 0 ≤ x) (hc : CF l x own) (hn : own ≠ []) (hlt : out = [] ∨ own.length < out.length) : SO l (x + 1) own := by
  have hlow : ∀ s n, 0 ≤ s → s < x → 0 < n → Wk (adjF (adjL l) s) n s s → own.length < n := fun s n s0 hs hn0 hw => by
    rcases h with ⟨rfl, h⟩ | ⟨_, h1, h2, h3, h4, h5, h6⟩
    · exact absurd hw (h s s0 hs n hn0)
    · have := h5 s n s0 hs hn0 hw
      rcases hlt with e | e
      · exact absurd e h1
      · omega
  refine Or.inr ⟨x, hn, h0, by omega, hc, fun s n s0 hs hn0 hw => ?_, hlow⟩
  by_cases e : s = x
  · subst e
    exact hc.min hn n hn0 hw
  · have := hlow s n s0 (by omega) hn0 hw
    omega
theorem SO.short {l : List S94} (hd : ∀ x ∈ l, dIn x) {out : List Int} (h : SO l 128 out) : IsShort l out := by
  have back : ∀ s g, Girth (adjL l) s g → Wk (adjF (adjL l) s) g s s := fun s g hG => hG.restrict g 0 s rfl hG.wk (by omega)
  rcases h with ⟨rfl, h⟩ | ⟨s0, h1, h2, h3, h4, h5, h6⟩
  · refine Or.inl ⟨rfl, fun c n hn hw => ?_⟩
    obtain ⟨s, g, hG⟩ := girth_ex hd hn hw
    have hr := wk_in hd hG.pos hG.wk
    exact h s hr.1 (by omega) g hG.pos (back s g hG)
  · rcases h4 with ⟨e, _⟩ | ⟨k1, k2, k3, k4, fr, k5, k6⟩
    · exact absurd e h1
    · obtain ⟨s, g, hG⟩ := girth_ex hd k1 k3
      have hr := wk_in hd hG.pos hG.wk
      have a1 := h5 s g hr.1 (by omega) hG.pos (back s g hG)
      have a2 := hG.least s0 _ k1 k3
      have e : s = s0 := by
        rcases Int.lt_trichotomy s s0 with e | e | e
        · have := h6 s g hr.1 e hG.pos (back s g hG)
          omega
        · exact e
        · have := hG.first s0 _ e k1 k3
          omega
      subst e
      have e2 : out.length = g := by omega
      rw [e2] at k6
      exact Or.inr ⟨s, g, fr, hG, k5, k6⟩
theorem shortI_l0 (l : List S94) (hl : l.length ≤ 1048576) (hd : ∀ x ∈ l, dIn x) : ∀ (d : Nat) (x : Int) (out : List Int), 0 ≤ x → 128 - x = (d : Int) → SO l x out → ∃ P, SO l 128 P ∧ Ev (fun k => impl_ShortestCycle.l0 k l out x) P
  | 0, x, out, h0, hx, hi => by
    have e : x = 128 := by omega
    subst e
    refine ⟨out, hi, Ev.suc ?_⟩
    simp only [impl_ShortestCycle.l0]
    exact Ev.ite_neg (by omega) (Ev.now _)
  | d + 1, x, out, h0, hx, hi => by
    have hw : wrap64 (x + 1) = x + 1 := w64 (by omega) (by omega)
    have go := fun out' hi' => shortI_l0 l hl hd d (x + 1) out' (by omega) (by omega) hi'
    obtain ⟨own, ho, hc⟩ := cyc_i l hl hd x ⟨h0, by omega⟩
    by_cases q1 : own = []
    · obtain ⟨P, hP, hr⟩ := go out (hi.skip (fun n hn hw2 => absurd hw2 ((q1 ▸ hc).nil n hn)))
      refine ⟨P, hP, Ev.suc ?_⟩
      simp only [impl_ShortestCycle.l0, hw]
      exact Ev.ite_pos (by omega) (Ev.bind ho (Ev.ite_pos q1 hr))
    · by_cases q2 : out = []
      · obtain ⟨P, hP, hr⟩ := go own (hi.take h0 hc q1 (Or.inl q2))
        refine ⟨P, hP, Ev.suc ?_⟩
        simp only [impl_ShortestCycle.l0, hw]
        exact Ev.ite_pos (by omega) (Ev.bind ho (Ev.ite_neg q1 (Ev.ite_pos q2 hr)))
      · by_cases q3 : own.length < out.length
        · obtain ⟨P, hP, hr⟩ := go own (hi.take h0 hc q1 (Or.inr q3))
          refine ⟨P, hP, Ev.suc ?_⟩
          simp only [impl_ShortestCycle.l0, hw]
          exact Ev.ite_pos (by omega) (Ev.bind ho (Ev.ite_neg q1 (Ev.ite_neg q2 (Ev.ite_pos (by omega) hr))))
        · obtain ⟨P, hP, hr⟩ := go out (hi.skip (fun n hn hw2 => ⟨q2, by have := hc.min q1 n hn hw2; omega⟩))
          refine ⟨P, hP, Ev.suc ?_⟩
          simp only [impl_ShortestCycle.l0, hw]
          exact Ev.ite_pos (by omega) (Ev.bind ho (Ev.ite_neg q1 (Ev.ite_neg q2 (Ev.ite_neg (by omega) hr))))
theorem ShortestCycle_i (l : List S94) (hl : l.length ≤ 1048576) : ∃ P, Ev (fun k => impl_ShortestCycle.f k l) P ∧ (if dAll l = true then IsShort l P else P = []) := by
  have hok := DependsOk_i l hl
  by_cases h : dAll l = true
  · have hd := dAll_in l h
    rw [h] at hok
    obtain ⟨P, hP, hr⟩ := shortI_l0 l hl hd 128 0 [] (by omega) (by omega) (Or.inl ⟨rfl, fun s h0 h1 => by omega⟩)
    refine ⟨P, ?_, by rw [if_pos h]; exact hP.short hd⟩
    unfold impl_ShortestCycle.f
    exact Ev.bind hok (Ev.ite_pos rfl hr)
  · refine ⟨[], ?_, by rw [if_neg h]⟩
    unfold impl_ShortestCycle.f
    exact Ev.bind hok (Ev.ite_neg h (Ev.now _))
theorem ShortEq {l : List S94} {P Q : List Int} (h : if dAll l = true then IsShort l P else P = []) (k : if dAll l = true then IsShort l Q else Q = []) : P = Q := by
  by_cases hq : dAll l = true
  · rw [if_pos hq] at h k
    exact h.unique k
  · rw [if_neg hq] at h k
    rw [h, k]

theorem ring_up : ∀ nn, nn < 13 → (rawTo nn true (nn * nn)).all (fun x => decide (x.f0 < x.f1)) = true := by decide +kernel
theorem ring_on : ∀ nn, nn < 13 → nn < 3 ∨ ∀ i, i < nn → (rawTo nn false (nn * nn)).any (fun x => decide (x.f0 = (i : Int) ∧ x.f1 = (((i + 1) % nn : Nat) : Int))) = true := by decide +kernel
theorem ring_two : rawTo 2 false 4 = [] := by decide +kernel
theorem wk_up {adj : Int → Int → Prop} (h : ∀ a b, adj a b → a < b) : ∀ (n : Nat) (a c : Int), Wk adj n a c → a + n ≤ c
  | 0, a, c, w => by
    have w : a = c := w
    omega
  | n + 1, a, c, ⟨b, hb, w⟩ => by
    have h1 := h a b hb
    have h2 := wk_up h n b c w
    omega
theorem short_up {l : List S94} {P : List Int} (h : IsShort l P) (hx : ∀ a b, adjL l a b → a < b) : P = [] := by
  rcases h with ⟨h, _⟩ | ⟨s, g, fr, hG, _, _⟩
  · exact h
  · have h1 := wk_up hx g s s hG.wk
    have h2 := hG.pos
    omega
theorem short_ne {l : List S94} {P : List Int} (h : IsShort l P) {c : Int} {n : Nat} (hn : 0 < n) (hw : Wk (adjL l) n c c) : 0 < P.length := by
  rcases h with ⟨_, h⟩ | ⟨s, g, fr, hG, hf, rfl⟩
  · exact absurd hw (h c n hn)
  · obtain ⟨h1, _, _⟩ := hG.path (su_mem l) hf g 0 s (by omega) rfl hG.wk
    have := hG.pos
    omega
theorem wk_ring {adj : Int → Int → Prop} (nn : Nat) (h : ∀ i : Nat, i < nn → adj (i : Int) (((i + 1) % nn : Nat) : Int)) : ∀ (d i : Nat), i + (d + 1) = nn → Wk adj (d + 1) (i : Int) 0
  | 0, i, e => by
    have h1 := h i (by omega)
    rw [show i + 1 = nn by omega, Nat.mod_self] at h1
    exact ⟨0, h1, rfl⟩
  | d + 1, i, e => by
    have h1 := h i (by omega)
    rw [Nat.mod_eq_of_lt (by omega)] at h1
    exact ⟨_, h1, wk_ring nn h d (i + 1) (by omega)⟩
theorem RingIsSafe_i (nn : Nat) (hn : 2 ≤ nn ∧ nn ≤ 12) (dl : Bool) : Ev (fun k => impl_RingIsSafe.f k (nn : Int) dl) (if dl = true then true else decide (nn = 2)) := by
  obtain ⟨r, ha, hl, hi, _, hm⟩ := ringDep_i (nn : Int) dl
  have hm := hm nn rfl hn
  obtain ⟨Q, ei, h2⟩ := ShortestCycle_i r (by omega)
  rw [if_pos ha] at h2
  unfold impl_RingIsSafe.f impl_HasCycle.f
  refine Ev.bind (isRing_nil _) (Ev.ite_pos (decide_eq_true (by omega)) (Ev.bind hi (Ev.bind (Ev.bind ei (Ev.now _)) (Ev.val ?_))))
  cases dl with
  | true =>
    rw [if_pos rfl]
    have e : Q = [] := short_up h2 (fun a b hab => by
      obtain ⟨x, hx, rfl, rfl⟩ := hab
      exact of_decide_eq_true (List.all_eq_true.1 (ring_up nn (by omega)) x ((hm x).1 hx)))
    rw [e]
    rfl
  | false =>
    rw [if_neg (by decide)]
    by_cases h3 : nn = 2
    · subst h3
      have e : Q = [] := short_up h2 (fun a b hab => by
        obtain ⟨x, hx, _, _⟩ := hab
        have := (hm x).1 hx
        rw [show 2 * 2 = 4 from rfl, ring_two] at this
        cases this)
      rw [e]
      rfl
    · have hp := short_ne h2 (c := 0) (n := nn - 1 + 1) (by omega) (wk_ring nn (fun i hi => by
        rcases ring_on nn (by omega) with h4 | h4
        · omega
        · obtain ⟨x, hx, hd⟩ := List.any_eq_true.1 (h4 i hi)
          obtain ⟨q1, q2⟩ := of_decide_eq_true hd
          exact ⟨x, (hm x).2 hx, q1, q2⟩) (nn - 1) 0 (by omega))
      rw [decide_eq_true (show (Q.length : Int) > 0 by omega), decide_eq_false h3]
      rfl
theorem FnRings : FnRings_says := by
  intro l hl
  refine Ev.rounds ?_
  unfold laws_FnRings.f
  simp only [big_f, Option.bind_some]
  refine Ev.ite (fun _ => Ev.now _) (fun hbig => ?_)
  simp only [decide_eq_true_eq] at hbig
  obtain ⟨ps, hp, hn, hr⟩ := DrawPlaces_f l (by omega)
  have h0 := hr 0 (by omega) (by omega)
  have h1 : 0 ≤ Int.tmod (rd ps 0) 11 ∧ Int.tmod (rd ps 0) 11 < 11 := by
    rw [Int.tmod_eq_emod_of_nonneg h0.1]
    exact ⟨Int.emod_nonneg _ (by omega), Int.emod_lt_of_pos _ (by omega)⟩
  refine Ev.bind hp (Ev.ite_pos (by omega) ?_)
  generalize Int.tmod (rd ps 0) 11 = v at h1 ⊢
  rw [w64 (x := 2 + v) (by omega) (by omega)]
  obtain ⟨nn, e⟩ : ∃ nn : Nat, 2 + v = (nn : Int) := ⟨(2 + v).toNat, by omega⟩
  rw [e]
  have hnn : 2 ≤ nn ∧ nn ≤ 12 := by omega
  refine Ev.bind (RingIsSafe_i nn hnn true) (Ev.ite_pos rfl (Ev.bind (RingIsSafe_i nn hnn false) (Ev.val ?_)))
  rw [if_neg (by decide)]
  by_cases h2 : nn = 2
  · subst h2
    rfl
  · rw [decide_eq_false h2, beq_eq_false_iff_ne.mpr (show ¬ (nn : Int) = 2 by omega)]
    rfl

end Go.Proofs.Ytimdefbpoddoaaa.Pure
