/- The plain statement of the law FnTurnsOfInputs: the first input from a turn on is an element, and none lies between. No condition. -/
import Derived.Test.YtffkmajlelhiaaaPFnTurnsOfInputsx
import Derived.Test.YtffkmajlelhiaaaU
import Derived.Test.YtffkmajlelhiaaaSaysFnTurnsOfInputs
namespace Go.Proofs.Ytffkmajlelhiaaa.Pure
open Go.RowKit Go.Proofs.Ytffkmajlelhiaaa.PFnTurnsOfInputs Go.Proofs.YtffkmajlelhiaaaW.PrintWords Go.Proofs.YtffkmajlelhiaaaW.PrintLast Go.Proofs.YtffkmajlelhiaaaW.PrintMore Go.Proofs.Ytffkmajlelhiaaa.U
set_option linter.unusedVariables false
set_option linter.unusedSimpArgs false

/-! ### big -/
theorem big_f (b : List Int) : laws_big.f b = some (decide ((b.length : Int) > 1048576)) := rfl

/-! ### cur -/
def CurOk (b : List Int) (i : Int) : Prop := 0 ≤ i ∧ i ≤ (b.length : Int) ∧ b.length ≤ 140737488351232
theorem l01New_l0 (b : List Int) (hb : b.length ≤ 140737488351232) : ∀ (d : Nat) (i h : Int), 0 ≤ i → i ≤ (b.length : Int) → (b.length : Int) - i = d → ∃ h', Ev (fun k => spec_l01New.l0 k b h i) (b, 0, h')
  | 0, i, h, h0, h1, hd => ⟨h, by
    refine Ev.suc ?_
    simp only [spec_l01New.l0]
    exact Ev.ite_neg (by omega) (Ev.now _)⟩
  | d + 1, i, h, h0, h1, hd => by
    by_cases h4 : i < 4000
    · obtain ⟨h', hh⟩ := l01New_l0 b hb d (i + 1) (Go.bits .and .i64 (wrap64 ((wrap64 ((wrap64 (h * 131)) + (wrap64 (rd b i)))) + 7)) 1073741823) (by omega) (by omega) (by omega)
      refine ⟨h', ?_⟩
      refine Ev.suc ?_
      simp only [spec_l01New.l0]
      refine Ev.ite_pos (by omega) (Ev.ite_pos h4 (Ev.ite_pos h0 ?_))
      rw [w64 (x := i + 1) (by omega) (by omega)]
      exact hh
    · refine ⟨h, ?_⟩
      refine Ev.suc ?_
      simp only [spec_l01New.l0]
      exact Ev.ite_pos (by omega) (Ev.ite_neg h4 (Ev.now _))
theorem l01New_f (b : List Int) (hb : b.length ≤ 140737488351232) : ∃ h', Ev (fun k => spec_l01New.f k b) (b, 0, h') := l01New_l0 b hb b.length 0 _ (by omega) (by omega) (by omega)
theorem l01New_ok (b : List Int) (hb : b.length ≤ 140737488351232) : CurOk b 0 := ⟨by omega, by omega, hb⟩
theorem l01Byte_f (b : List Int) (i h : Int) (hc : CurOk b i) : ∃ r i' h', spec_l01Byte.f b i h = some (r, i', h') ∧ 0 ≤ r ∧ r ≤ 255 ∧ CurOk b i' := by
  obtain ⟨h0, h1, h2⟩ := hc
  unfold spec_l01Byte.f
  by_cases hl : i < (b.length : Int)
  · rw [if_pos hl, if_pos h0]
    refine ⟨_, _, _, rfl, (and255 _).1, (and255 _).2, ?_⟩
    rw [w64 (by omega) (by omega)]
    exact ⟨by omega, by omega, h2⟩
  · rw [if_neg hl]
    exact ⟨_, _, _, rfl, (and255 _).1, (and255 _).2, h0, h1, h2⟩
theorem l01Below_f (b : List Int) (i h n : Int) (hc : CurOk b i) : ∃ r i' h', spec_l01Below.f b i h n = some (r, i', h') ∧ 0 ≤ r ∧ (0 < n → r < n) ∧ (n ≤ 0 → r = 0) ∧ CurOk b i' := by
  unfold spec_l01Below.f
  by_cases hn : n ≤ 0
  · rw [if_pos hn]
    exact ⟨0, i, h, rfl, by omega, by omega, fun _ => rfl, hc⟩
  · rw [if_neg hn]
    have tm : ∀ x : Int, 0 ≤ x → 0 ≤ Int.tmod x n ∧ Int.tmod x n < n := fun x hx => by
      rw [Int.tmod_eq_emod_of_nonneg hx]
      exact ⟨Int.emod_nonneg _ (by omega), Int.emod_lt_of_pos _ (by omega)⟩
    by_cases h2 : n ≤ 256
    · obtain ⟨r, i', h', e, r0, r1, hc'⟩ := l01Byte_f b i h hc
      rw [if_pos h2, e]
      simp only [Option.bind_some]
      rw [if_neg (by omega)]
      exact ⟨_, _, _, rfl, (tm r r0).1, fun _ => (tm r r0).2, fun h => absurd h hn, hc'⟩
    · rw [if_neg h2]
      obtain ⟨x, i1, h1, e1, x0, x1, hc1⟩ := l01Byte_f b i h hc
      obtain ⟨y, i2, h2', e2, y0, y1, hc2⟩ := l01Byte_f b i1 h1 hc1
      obtain ⟨z, i3, h3, e3, z0, z1, hc3⟩ := l01Byte_f b i2 h2' hc2
      obtain ⟨w, i4, h4, e4, w0, w1, hc4⟩ := l01Byte_f b i3 h3 hc3
      simp only [e1, e2, e3, e4, Option.bind_some]
      rw [if_neg (by omega)]
      have hs : wrap64 ((wrap64 ((wrap64 ((wrap64 (x * 16777216)) + (wrap64 (y * 65536)))) + (wrap64 (z * 256)))) + w) = x * 16777216 + y * 65536 + z * 256 + w := by
        rw [w64 (x := x * 16777216) (by omega) (by omega), w64 (x := y * 65536) (by omega) (by omega), w64 (x := z * 256) (by omega) (by omega)]
        rw [w64 (x := x * 16777216 + y * 65536) (by omega) (by omega)]
        rw [w64 (x := x * 16777216 + y * 65536 + z * 256) (by omega) (by omega)]
        exact w64 (by omega) (by omega)
      rw [hs]
      exact ⟨_, _, _, rfl, (tm _ (by omega)).1, fun _ => (tm _ (by omega)).2, fun h => absurd h hn, hc4⟩

/-! ### DrawPlaces -/
theorem DrawPlaces_l0 (b : List Int) : ∀ (d : Nat) (l : List Int) (i p h : Int), CurOk b p → (l.length : Int) = i → (12 : Int) - i = d → (∀ x ∈ l, 0 ≤ x ∧ x ≤ 9999) →
    ∃ ps, Ev (fun k => spec_DrawPlaces.l0 k l i b p h) ps ∧ ps.length = 12 ∧ ∀ x ∈ ps, 0 ≤ x ∧ x ≤ 9999
  | 0, l, i, p, h, hc, hl, hd, hx => ⟨l, by
    refine Ev.suc ?_
    simp only [spec_DrawPlaces.l0]
    exact Ev.ite_neg (by omega) (Ev.now _), by omega, hx⟩
  | d + 1, l, i, p, h, hc, hl, hd, hx => by
    obtain ⟨r, p', h', e, r0, r1, _, hc'⟩ := l01Below_f b p h 10000 hc
    obtain ⟨ps, hp, hp2⟩ := DrawPlaces_l0 b d (l ++ [r]) (i + 1) p' h' hc' (by simp; omega) (by omega) (fun x hm => by
      rcases List.mem_append.1 hm with hm | hm
      · exact hx x hm
      · rw [List.mem_singleton.1 hm]
        have := r1 (by omega)
        omega)
    refine ⟨ps, ?_, hp2⟩
    refine Ev.suc ?_
    simp only [spec_DrawPlaces.l0, e, Option.bind_some]
    refine Ev.ite_pos (by omega) (Ev.ite_pos (by omega) ?_)
    rw [w64 (by omega) (by omega)]
    exact hp
theorem DrawPlaces_f (b : List Int) (hb : b.length ≤ 140737488351232) : ∃ ps, Ev (fun k => spec_DrawPlaces.f k b) ps ∧ ps.length = 12 ∧ ∀ i, 0 ≤ i → i < 12 → 0 ≤ rd ps i ∧ rd ps i ≤ 9999 := by
  obtain ⟨h', hn⟩ := l01New_f b hb
  obtain ⟨ps, hp, hl, hx⟩ := DrawPlaces_l0 b 12 [] 0 0 h' (l01New_ok b hb) (by simp) (by omega) (fun x hx => by cases hx)
  refine ⟨ps, ?_, hl, fun i h0 h1 => hx _ ?_⟩
  · unfold spec_DrawPlaces.f
    exact Ev.bind hn hp
  · unfold rd
    rw [List.getD_eq_getElem?_getD, List.getElem?_eq_getElem (by omega)]
    exact List.getElem_mem _

/-! ### inside -/
theorem inside_f (a b c : Int) : impl_inside.f a b c = some (decide (b ≤ a ∧ a ≤ c)) := by
  unfold impl_inside.f
  by_cases h : b ≤ a
  · rw [if_pos h]
    simp [h]
  · rw [if_neg h]
    simp [h]

/-! ### areInside -/
theorem areInside_l0 (lo hi : Int) : ∀ (rest pre : List Int), pre.length + rest.length ≤ 1152921504606846976 →
    Ev (fun k => impl_areInside.l0 k lo hi (pre ++ rest) ((pre ++ rest).length : Int) (pre.length : Int)) (decide (∀ x ∈ rest, lo ≤ x ∧ x ≤ hi))
  | [], pre, _ => by
    refine Ev.suc ?_
    simp only [impl_areInside.l0]
    refine Ev.ite_neg (by simp) (Ev.val (by simp))
  | x :: rest, pre, hl => by
    simp only [List.length_cons] at hl
    have h1 : (pre.length : Int) < ((pre ++ x :: rest).length : Int) := by simp only [List.length_append, List.length_cons]; omega
    have hw : wrap64 ((pre.length : Int) + 1) = ((pre ++ [x]).length : Int) := by rw [w64 (by omega) (by omega), len_snoc]
    have ih := areInside_l0 lo hi rest (pre ++ [x]) (by simp only [List.length_append, List.length_cons, List.length_nil]; omega)
    refine Ev.suc ?_
    simp only [impl_areInside.l0, rd_mid, inside_f, Option.bind_some, decide_eq_true_eq, hw]
    refine Ev.ite_pos h1 (Ev.ite_pos (by omega) (Ev.ite_pos h1 ?_))
    refine Ev.ite (fun hx => ?_) (fun hx => Ev.val ?_)
    · rw [snoc_app pre x rest]
      refine Ev.eq ih ?_
      rw [decide_eq_decide]
      simp [hx]
    · symm
      rw [decide_eq_false_iff_not]
      intro h
      exact hx (h x List.mem_cons_self)
theorem areInside_f (l : List Int) (lo hi : Int) (h : l.length ≤ 1152921504606846976) : Ev (fun k => impl_areInside.f k l lo hi) (decide (∀ x ∈ l, lo ≤ x ∧ x ≤ hi)) := by
  unfold impl_areInside.f
  exact areInside_l0 lo hi l [] (by simpa using h)

/-! ### ff -/
def ffKey (t x : Int) : Int := Int.tmod (wrap64 ((wrap64 (x - t)) + 10)) 10
def ffStep (t b x : Int) : Int := if b < 0 then x else if ffKey t x < ffKey t b then x else b
def ffGo (t : Int) : Int → List Int → Int
  | b, [] => b
  | b, x :: xs => ffGo t (ffStep t b x) xs
def ffR (l : List Int) (t : Int) : Int := if (∀ x ∈ l, 0 ≤ x ∧ x ≤ 9) ∧ (l = [] ∨ (0 ≤ t ∧ t ≤ 9)) then ffGo t (-1) l else -1

/-! ### FirstFrom_i -/
theorem FirstFrom_i_l0 (t : Int) : ∀ (rest pre : List Int) (b : Int), pre.length + rest.length ≤ 1152921504606846976 →
    Ev (fun k => impl_FirstFrom.l0 k t b (pre ++ rest) ((pre ++ rest).length : Int) (pre.length : Int)) (ffGo t b rest)
  | [], pre, b, _ => by
    refine Ev.suc ?_
    simp only [impl_FirstFrom.l0]
    refine Ev.ite_neg (by simp) (Ev.val (by simp [ffGo]))
  | x :: rest, pre, b, hl => by
    simp only [List.length_cons] at hl
    have h1 : (pre.length : Int) < ((pre ++ x :: rest).length : Int) := by simp only [List.length_append, List.length_cons]; omega
    have hw : wrap64 ((pre.length : Int) + 1) = ((pre ++ [x]).length : Int) := by rw [w64 (by omega) (by omega), len_snoc]
    have ih := fun b' => FirstFrom_i_l0 t rest (pre ++ [x]) b' (by simp only [List.length_append, List.length_cons, List.length_nil]; omega)
    refine Ev.suc ?_
    simp only [impl_FirstFrom.l0, rd_mid, hw]
    refine Ev.ite_pos h1 (Ev.ite_pos (by omega) (Ev.ite_pos h1 ?_))
    unfold ffGo ffStep
    by_cases hb : b < 0
    · refine Ev.ite_pos hb ?_
      rw [if_pos hb, snoc_app pre x rest]
      exact ih x
    · refine Ev.ite_neg hb ?_
      rw [if_neg hb]
      by_cases hk : ffKey t x < ffKey t b
      · refine Ev.ite_pos hk ?_
        rw [if_pos hk, snoc_app pre x rest]
        exact ih x
      · refine Ev.ite_neg hk ?_
        rw [if_neg hk, snoc_app pre x rest]
        exact ih b
theorem FirstFrom_i (l : List Int) (t : Int) (h : l.length ≤ 1152921504606846976) : Ev (fun k => impl_FirstFrom.f k l t) (ffR l t) := by
  unfold impl_FirstFrom.f ffR
  refine Ev.bind (areInside_f l 0 9 h) ?_
  simp only [decide_eq_true_eq, inside_f, Option.bind_some]
  refine Ev.ite (fun ha => ?_) (fun ha => ?_)
  · refine Ev.suc ?_
    simp only [impl_FirstFrom.j0]
    by_cases ht : 0 ≤ t ∧ t ≤ 9
    · refine Ev.ite_neg (by simp [ht]) ?_
      rw [if_pos ⟨ha, .inr ht⟩]
      exact FirstFrom_i_l0 t l [] (-1) (by simpa using h)
    · refine Ev.ite_pos (by simp [ht]) (Ev.val ?_)
      cases l with
      | nil => simp [ffGo]
      | cons x xs =>
        rw [if_neg]
        rintro ⟨_, h | h⟩
        · cases h
        · exact ht h
  · refine Ev.suc ?_
    simp only [impl_FirstFrom.j0]
    refine Ev.ite_pos trivial (Ev.val ?_)
    rw [if_neg (fun h => ha h.1)]

/-! ### has -/
theorem has_l0 (x : Int) : ∀ (rest pre : List Int), pre.length + rest.length ≤ 1152921504606846976 → Ev (fun k => laws_has.l0 k (pre ++ rest) x (pre.length : Int)) (decide (x ∈ rest))
  | [], pre, _ => by
    refine Ev.suc ?_
    simp only [laws_has.l0]
    exact Ev.ite_neg (by simp) (Ev.val (by simp))
  | y :: rest, pre, hl => by
    simp only [List.length_cons] at hl
    have h1 : (pre.length : Int) < ((pre ++ y :: rest).length : Int) := by simp only [List.length_append, List.length_cons]; omega
    have hw : wrap64 ((pre.length : Int) + 1) = ((pre ++ [y]).length : Int) := by rw [w64 (by omega) (by omega), len_snoc]
    refine Ev.suc ?_
    simp only [laws_has.l0, rd_mid, hw]
    refine Ev.ite_pos h1 (Ev.ite_pos (by omega) (Ev.ite (fun h => Ev.val ?_) (fun h => ?_)))
    · simp [h]
    · rw [snoc_app pre y rest]
      refine Ev.eq (has_l0 x rest (pre ++ [y]) (by simp only [List.length_append, List.length_cons, List.length_nil]; omega)) ?_
      rw [decide_eq_decide]
      simp [show ¬ x = y from fun e => h e.symm]
theorem has_f (l : List Int) (x : Int) (h : l.length ≤ 1152921504606846976) : Ev (fun k => laws_has.f k l x) (decide (x ∈ l)) := by
  unfold laws_has.f
  exact has_l0 x l [] (by simpa using h)

theorem ffStep_pos (t b x : Int) (hb : 0 ≤ b) (hx : 0 ≤ x) : 0 ≤ ffStep t b x := by
  unfold ffStep
  split
  · exact hx
  · split
    · exact hx
    · exact hb
theorem ffGo_min (t : Int) : ∀ (l : List Int) (b : Int), 0 ≤ b → (∀ x ∈ l, 0 ≤ x) → (ffGo t b l = b ∨ ffGo t b l ∈ l) ∧ ffKey t (ffGo t b l) ≤ ffKey t b ∧ ∀ y ∈ l, ffKey t (ffGo t b l) ≤ ffKey t y
  | [], b, _, _ => ⟨.inl rfl, Int.le_refl _, fun y hy => by cases hy⟩
  | x :: l, b, hb, hx => by
    have hx0 := hx x List.mem_cons_self
    obtain ⟨h1, h2, h3⟩ := ffGo_min t l (ffStep t b x) (ffStep_pos t b x hb hx0) (fun y hy => hx y (List.mem_cons_of_mem _ hy))
    have hs : ffKey t (ffStep t b x) ≤ ffKey t b ∧ ffKey t (ffStep t b x) ≤ ffKey t x ∧ (ffStep t b x = b ∨ ffStep t b x = x) := by
      unfold ffStep
      rw [if_neg (by omega)]
      split
      · exact ⟨by omega, by omega, .inr rfl⟩
      · exact ⟨by omega, by omega, .inl rfl⟩
    unfold ffGo
    refine ⟨?_, by omega, fun y hy => ?_⟩
    · rcases h1 with h1 | h1
      · rw [h1]
        rcases hs.2.2 with h | h
        · exact .inl h
        · rw [h]
          exact .inr List.mem_cons_self
      · exact .inr (List.mem_cons_of_mem _ h1)
    · rcases List.mem_cons.1 hy with rfl | hy
      · omega
      · exact h3 y hy
theorem ffGo_top (t x : Int) (l : List Int) (h : ∀ y ∈ x :: l, 0 ≤ y) : ffGo t (-1) (x :: l) ∈ x :: l ∧ ∀ y ∈ x :: l, ffKey t (ffGo t (-1) (x :: l)) ≤ ffKey t y := by
  obtain ⟨h1, h2, h3⟩ := ffGo_min t l x (h x List.mem_cons_self) (fun y hy => h y (List.mem_cons_of_mem _ hy))
  have e : ffGo t (-1) (x :: l) = ffGo t x l := rfl
  rw [e]
  refine ⟨?_, fun y hy => ?_⟩
  · rcases h1 with h1 | h1
    · rw [h1]
      exact List.mem_cons_self
    · exact List.mem_cons_of_mem _ h1
  · rcases List.mem_cons.1 hy with rfl | hy
    · exact h2
    · exact h3 y hy
theorem law_l1 (t x : Int) : ∀ (rest pre : List Int), pre.length + rest.length ≤ 1048576 → (∀ y ∈ rest, ffKey t x ≤ ffKey t y) → x ∈ pre ++ rest → Ev (fun k => laws_FnTurnsOfInputs.l1 k (pre ++ rest) t x (pre.length : Int)) true
  | [], pre, hl, _, hx => by
    refine Ev.suc ?_
    simp only [laws_FnTurnsOfInputs.l1]
    refine Ev.ite_neg (by simp) ?_
    refine Ev.bind (has_f (pre ++ []) x (by simp; omega)) (Ev.val ?_)
    simp only [decide_eq_true_eq]
    exact hx
  | y :: rest, pre, hl, hm, hx => by
    simp only [List.length_cons] at hl
    have h1 : (pre.length : Int) < ((pre ++ y :: rest).length : Int) := by simp only [List.length_append, List.length_cons]; omega
    have hw : wrap64 ((pre.length : Int) + 1) = ((pre ++ [y]).length : Int) := by rw [w64 (by omega) (by omega), len_snoc]
    refine Ev.suc ?_
    simp only [laws_FnTurnsOfInputs.l1, rd_mid, hw]
    have hk : ¬ ffKey t y < ffKey t x := by
      have := hm y List.mem_cons_self
      omega
    refine Ev.ite_pos h1 (Ev.ite_pos (by omega) (Ev.ite_neg hk ?_))
    rw [snoc_app pre y rest] at hx ⊢
    exact law_l1 t x rest (pre ++ [y]) (by simp only [List.length_append, List.length_cons, List.length_nil]; omega) (fun z hz => hm z (List.mem_cons_of_mem _ hz)) hx
theorem law_end (l : List Int) (t : Int) (hl : l.length ≤ 5) (hx : ∀ x ∈ l, 0 ≤ x ∧ x ≤ 9) (ht : 0 ≤ t ∧ t ≤ 9) :
    Ev (fun k => (impl_FirstFrom.f k l t).bind fun t152 => (if (l.length : Int) = 0 then (some (t152 == (-1))) else (laws_FnTurnsOfInputs.l1 k l t t152 0))) true := by
  refine Ev.bind (FirstFrom_i l t (by omega)) ?_
  unfold ffR
  cases l with
  | nil => exact Ev.ite_pos rfl (Ev.val rfl)
  | cons x l =>
    obtain ⟨h1, h2⟩ := ffGo_top t x l (fun y hy => (hx y hy).1)
    rw [if_pos ⟨hx, .inr ht⟩]
    refine Ev.ite_neg (by simp only [List.length_cons]; omega) ?_
    exact law_l1 t _ (x :: l) [] (by simp only [List.length_cons, List.length_nil] at hl ⊢; omega) h2 h1
theorem tm_rng (x n : Int) (hx : 0 ≤ x) (hn : 0 < n) : 0 ≤ Int.tmod x n ∧ Int.tmod x n < n := by
  rw [Int.tmod_eq_emod_of_nonneg hx]
  exact ⟨Int.emod_nonneg _ (by omega), Int.emod_lt_of_pos _ hn⟩
theorem law_l0 (ps : List Int) (hp : ps.length = 12) (hr : ∀ i, 0 ≤ i → i < 12 → 0 ≤ rd ps i ∧ rd ps i ≤ 9999) : ∀ (d : Nat) (l : List Int) (i : Int), (l.length : Int) = i → (∀ x ∈ l, 0 ≤ x ∧ x ≤ 9) → Int.tmod (rd ps 0) 5 - i = d →
    Ev (fun k => laws_FnTurnsOfInputs.l0 k ps l i) true
  | d, l, i, hl, hx, hd => by
    have h0 := tm_rng (rd ps 0) 5 (hr 0 (by omega) (by omega)).1 (by omega)
    have h7 := tm_rng (rd ps 7) 10 (hr 7 (by omega) (by omega)).1 (by omega)
    refine Ev.suc ?_
    simp only [laws_FnTurnsOfInputs.l0]
    refine Ev.ite_pos (by omega) ?_
    cases d with
    | zero =>
      refine Ev.ite_neg (by omega) (Ev.ite_pos (by omega) ?_)
      exact law_end l _ (by omega) hx ⟨h7.1, by omega⟩
    | succ d =>
      have hw : wrap64 (i + 1) = i + 1 := w64 (by omega) (by omega)
      have hi := tm_rng (rd ps (i + 1)) 10 (hr (i + 1) (by omega) (by omega)).1 (by omega)
      rw [hw]
      refine Ev.ite_pos (by omega) (Ev.ite_pos (by omega) (Ev.ite_pos (by omega) (Ev.ite_pos (by omega) ?_)))
      refine law_l0 ps hp hr d _ (i + 1) (by simp; omega) (fun x hm => ?_) (by omega)
      rcases List.mem_append.1 hm with hm | hm
      · exact hx x hm
      · rw [List.mem_singleton.1 hm]
        omega
theorem FnTurnsOfInputs : FnTurnsOfInputs_says := by
  intro l hl
  refine Ev.rounds ?_
  unfold laws_FnTurnsOfInputs.f
  simp only [big_f, Option.bind_some]
  refine Ev.ite (fun _ => Ev.now _) (fun hbig => ?_)
  simp only [decide_eq_true_eq] at hbig
  obtain ⟨ps, hp, hn, hr⟩ := DrawPlaces_f l (by omega)
  refine Ev.bind hp ?_
  have h0 := tm_rng (rd ps 0) 5 (hr 0 (by omega) (by omega)).1 (by omega)
  exact law_l0 ps hn hr (Int.tmod (rd ps 0) 5).toNat [] 0 rfl (fun x hx => by cases hx) (by omega)

end Go.Proofs.Ytffkmajlelhiaaa.Pure
