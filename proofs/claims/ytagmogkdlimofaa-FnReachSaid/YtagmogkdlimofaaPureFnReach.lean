/- The plain statement of the law FnReach: the numbers of steps between channels satisfy the triangle inequality. No condition. -/
import Derived.Test.YtagmogkdlimofaaPFnReachx
import Derived.Test.YtagmogkdlimofaaU
import Derived.Test.YtagmogkdlimofaaSaysFnReach
namespace Go.Proofs.Ytagmogkdlimofaa.Pure
open Go.RowKit Go.Proofs.Ytagmogkdlimofaa.PFnReach Go.Proofs.YtagmogkdlimofaaW.PrintWords Go.Proofs.YtagmogkdlimofaaW.PrintLast Go.Proofs.YtagmogkdlimofaaW.PrintMore Go.Proofs.Ytagmogkdlimofaa.U
set_option linter.unusedVariables false
set_option linter.unusedSimpArgs false

/-! ### big -/
theorem big_f (b : List Int) : laws_big.f b = some (decide ((b.length : Int) > 1048576)) := rfl

/-! ### cur -/
def CurOk (b : List Int) (i : Int) : Prop := 0 ≤ i ∧ i ≤ (b.length : Int) ∧ b.length ≤ 140737488351232
theorem l01New_l0 (b : List Int) (hb : b.length ≤ 140737488351232) : ∀ (d : Nat) (i h : Int), 0 ≤ i → i ≤ (b.length : Int) → (b.length : Int) - i = d → ∃ h', Ev (fun k => spec_l01New.l0 k b h i) (b, 0, h')
  | 0, i, h, h0, h1, hd => ⟨h, by
    refine Ev.suc ?_
    simp only [spec_l01New.l0]
    exact Ev.ite_neg (by omega) (Ev.now _)⟩
  | d + 1, i, h, h0, h1, hd => by
    by_cases h4 : i < 4000
    · obtain ⟨h', hh⟩ := l01New_l0 b hb d (i + 1) (Go.bits .and .i64 (wrap64 ((wrap64 ((wrap64 (h * 131)) + (wrap64 (rd b i)))) + 7)) 1073741823) (by omega) (by omega) (by omega)
      refine ⟨h', ?_⟩
      refine Ev.suc ?_
      simp only [spec_l01New.l0]
      refine Ev.ite_pos (by omega) (Ev.ite_pos h4 (Ev.ite_pos h0 ?_))
      rw [w64 (x := i + 1) (by omega) (by omega)]
      exact hh
    · refine ⟨h, ?_⟩
      refine Ev.suc ?_
      simp only [spec_l01New.l0]
      exact Ev.ite_pos (by omega) (Ev.ite_neg h4 (Ev.now _))
theorem l01New_f (b : List Int) (hb : b.length ≤ 140737488351232) : ∃ h', Ev (fun k => spec_l01New.f k b) (b, 0, h') := l01New_l0 b hb b.length 0 _ (by omega) (by omega) (by omega)
theorem l01New_ok (b : List Int) (hb : b.length ≤ 140737488351232) : CurOk b 0 := ⟨by omega, by omega, hb⟩
theorem l01Byte_f (b : List Int) (i h : Int) (hc : CurOk b i) : ∃ r i' h', spec_l01Byte.f b i h = some (r, i', h') ∧ 0 ≤ r ∧ r ≤ 255 ∧ CurOk b i' := by
  obtain ⟨h0, h1, h2⟩ := hc
  unfold spec_l01Byte.f
  by_cases hl : i < (b.length : Int)
  · rw [if_pos hl, if_pos h0]
    refine ⟨_, _, _, rfl, (and255 _).1, (and255 _).2, ?_⟩
    rw [w64 (by omega) (by omega)]
    exact ⟨by omega, by omega, h2⟩
  · rw [if_neg hl]
    exact ⟨_, _, _, rfl, (and255 _).1, (and255 _).2, h0, h1, h2⟩
theorem l01Below_f (b : List Int) (i h n : Int) (hc : CurOk b i) : ∃ r i' h', spec_l01Below.f b i h n = some (r, i', h') ∧ 0 ≤ r ∧ (0 < n → r < n) ∧ (n ≤ 0 → r = 0) ∧ CurOk b i' := by
  unfold spec_l01Below.f
  by_cases hn : n ≤ 0
  · rw [if_pos hn]
    exact ⟨0, i, h, rfl, by omega, by omega, fun _ => rfl, hc⟩
  · rw [if_neg hn]
    have tm : ∀ x : Int, 0 ≤ x → 0 ≤ Int.tmod x n ∧ Int.tmod x n < n := fun x hx => by
      rw [Int.tmod_eq_emod_of_nonneg hx]
      exact ⟨Int.emod_nonneg _ (by omega), Int.emod_lt_of_pos _ (by omega)⟩
    by_cases h2 : n ≤ 256
    · obtain ⟨r, i', h', e, r0, r1, hc'⟩ := l01Byte_f b i h hc
      rw [if_pos h2, e]
      simp only [Option.bind_some]
      rw [if_neg (by omega)]
      exact ⟨_, _, _, rfl, (tm r r0).1, fun _ => (tm r r0).2, fun h => absurd h hn, hc'⟩
    · rw [if_neg h2]
      obtain ⟨x, i1, h1, e1, x0, x1, hc1⟩ := l01Byte_f b i h hc
      obtain ⟨y, i2, h2', e2, y0, y1, hc2⟩ := l01Byte_f b i1 h1 hc1
      obtain ⟨z, i3, h3, e3, z0, z1, hc3⟩ := l01Byte_f b i2 h2' hc2
      obtain ⟨w, i4, h4, e4, w0, w1, hc4⟩ := l01Byte_f b i3 h3 hc3
      simp only [e1, e2, e3, e4, Option.bind_some]
      rw [if_neg (by omega)]
      have hs : wrap64 ((wrap64 ((wrap64 ((wrap64 (x * 16777216)) + (wrap64 (y * 65536)))) + (wrap64 (z * 256)))) + w) = x * 16777216 + y * 65536 + z * 256 + w := by
        rw [w64 (x := x * 16777216) (by omega) (by omega), w64 (x := y * 65536) (by omega) (by omega), w64 (x := z * 256) (by omega) (by omega)]
        rw [w64 (x := x * 16777216 + y * 65536) (by omega) (by omega)]
        rw [w64 (x := x * 16777216 + y * 65536 + z * 256) (by omega) (by omega)]
        exact w64 (by omega) (by omega)
      rw [hs]
      exact ⟨_, _, _, rfl, (tm _ (by omega)).1, fun _ => (tm _ (by omega)).2, fun h => absurd h hn, hc4⟩

/-! ### DrawPlaces -/
theorem DrawPlaces_l0 (b : List Int) : ∀ (d : Nat) (l : List Int) (i p h : Int), CurOk b p → (l.length : Int) = i → (12 : Int) - i = d → (∀ x ∈ l, 0 ≤ x ∧ x ≤ 9999) →
    ∃ ps, Ev (fun k => spec_DrawPlaces.l0 k l i b p h) ps ∧ ps.length = 12 ∧ ∀ x ∈ ps, 0 ≤ x ∧ x ≤ 9999
  | 0, l, i, p, h, hc, hl, hd, hx => ⟨l, by
    refine Ev.suc ?_
    simp only [spec_DrawPlaces.l0]
    exact Ev.ite_neg (by omega) (Ev.now _), by omega, hx⟩
  | d + 1, l, i, p, h, hc, hl, hd, hx => by
    obtain ⟨r, p', h', e, r0, r1, _, hc'⟩ := l01Below_f b p h 10000 hc
    obtain ⟨ps, hp, hp2⟩ := DrawPlaces_l0 b d (l ++ [r]) (i + 1) p' h' hc' (by simp; omega) (by omega) (fun x hm => by
      rcases List.mem_append.1 hm with hm | hm
      · exact hx x hm
      · rw [List.mem_singleton.1 hm]
        have := r1 (by omega)
        omega)
    refine ⟨ps, ?_, hp2⟩
    refine Ev.suc ?_
    simp only [spec_DrawPlaces.l0, e, Option.bind_some]
    refine Ev.ite_pos (by omega) (Ev.ite_pos (by omega) ?_)
    rw [w64 (by omega) (by omega)]
    exact hp
theorem DrawPlaces_f (b : List Int) (hb : b.length ≤ 140737488351232) : ∃ ps, Ev (fun k => spec_DrawPlaces.f k b) ps ∧ ps.length = 12 ∧ ∀ i, 0 ≤ i → i < 12 → 0 ≤ rd ps i ∧ rd ps i ≤ 9999 := by
  obtain ⟨h', hn⟩ := l01New_f b hb
  obtain ⟨ps, hp, hl, hx⟩ := DrawPlaces_l0 b 12 [] 0 0 h' (l01New_ok b hb) (by simp) (by omega) (fun x hx => by cases hx)
  refine ⟨ps, ?_, hl, fun i h0 h1 => hx _ ?_⟩
  · unfold spec_DrawPlaces.f
    exact Ev.bind hn hp
  · unfold rd
    rw [List.getD_eq_getElem?_getD, List.getElem?_eq_getElem (by omega)]
    exact List.getElem_mem _

/-! ### rdDepend -/
theorem rdI_Depend (pre : List S44) (x : S44) (rest : List S44) : rd_T44 (pre ++ x :: rest) (pre.length : Int) = x := getD_mid pre x rest _

/-! ### dependD -/
abbrev dIn (x : S44) : Prop := (0 ≤ x.f0 ∧ x.f0 ≤ 127) ∧ (0 ≤ x.f1 ∧ x.f1 ≤ 127)
abbrev dLt (a b : S44) : Prop := a.f0 < b.f0 ∨ (a.f0 = b.f0 ∧ a.f1 < b.f1)
def dGo : S44 → List S44 → Bool
  | _, [] => true
  | y, x :: r => decide (dIn x) && (decide (dLt y x) && dGo x r)
/-- The list of depends is valid. -/
def dAll : List S44 → Bool
  | [] => true
  | x :: r => decide (dIn x) && dGo x r
theorem dGo_cons (y x : S44) (r : List S44) : dGo y (x :: r) = (decide (dIn x) && (decide (dLt y x) && dGo x r)) := rfl
theorem dAll_cons (x : S44) (r : List S44) : dAll (x :: r) = (decide (dIn x) && dGo x r) := rfl
theorem prev_rd (p : List S44) (y x : S44) (rest : List S44) (hl : (p ++ [y]).length + rest.length < 1152921504606846976) : wrap64 (((p ++ [y]).length : Int) - 1) = (p.length : Int) ∧ rd_T44 (p ++ [y] ++ x :: rest) (p.length : Int) = y := by
  refine ⟨?_, ?_⟩
  · simp only [List.length_append, List.length_cons, List.length_nil] at hl ⊢
    rw [w64 (by omega) (by omega)]
    omega
  · rw [List.append_assoc]
    exact rdI_Depend p y (x :: rest)

/-! ### lessD -/
theorem less_f (a b c d : Int) : spec_l08Less.f a b c d = some (decide (a < c ∨ (a = c ∧ b < d))) := by
  unfold spec_l08Less.f
  by_cases h1 : a < c
  · rw [if_pos h1, decide_eq_true (Or.inl h1)]
  · rw [if_neg h1]
    by_cases h2 : a = c
    · rw [if_pos h2]
      congr 1
      rw [decide_eq_decide]
      omega
    · rw [if_neg h2, decide_eq_false (by omega)]

/-! ### putD -/
theorem dLt_trans {a b c : S44} (h : dLt a b) (k : dLt b c) : dLt a c := by
  unfold dLt at *
  omega
theorem dGo_iff : ∀ (r : List S44) (y : S44), dGo y r = true ↔ (∀ x ∈ r, dIn x) ∧ (y :: r).Pairwise dLt
  | [], y => by simp [dGo]
  | z :: r, y => by
    rw [dGo_cons, Bool.and_eq_true, Bool.and_eq_true, decide_eq_true_eq, decide_eq_true_eq, dGo_iff r z]
    constructor
    · rintro ⟨h1, h2, h3, h4⟩
      refine ⟨fun x hx => ?_, List.pairwise_cons.2 ⟨fun x hx => ?_, h4⟩⟩
      · rcases List.mem_cons.1 hx with rfl | hx
        · exact h1
        · exact h3 x hx
      · rcases List.mem_cons.1 hx with rfl | hx
        · exact h2
        · exact dLt_trans h2 ((List.pairwise_cons.1 h4).1 x hx)
    · rintro ⟨h1, h2⟩
      rw [List.pairwise_cons] at h2
      exact ⟨h1 z List.mem_cons_self, h2.1 z List.mem_cons_self, fun x hx => h1 x (List.mem_cons_of_mem _ hx), h2.2⟩
theorem dAll_iff : ∀ (l : List S44), dAll l = true ↔ (∀ x ∈ l, dIn x) ∧ l.Pairwise dLt
  | [] => by simp [dAll]
  | z :: r => by
    rw [dAll_cons, Bool.and_eq_true, decide_eq_true_eq, dGo_iff]
    constructor
    · rintro ⟨h1, h2, h3⟩
      refine ⟨fun x hx => ?_, h3⟩
      rcases List.mem_cons.1 hx with rfl | hx
      · exact h1
      · exact h2 x hx
    · rintro ⟨h1, h2⟩
      exact ⟨h1 z List.mem_cons_self, fun x hx => h1 x (List.mem_cons_of_mem _ hx), h2⟩
theorem rdD_at (l : List S44) (i : Nat) (h : i < l.length) : rd_T44 l (i : Int) = l[i] := by
  show l.getD (i : Int).toNat _ = _
  rw [Int.toNat_natCast, List.getD_eq_getElem?_getD, List.getElem?_eq_getElem h]
  rfl
/-- What 'l08Put' makes: the list with one element more, in its place. -/
def PutOf (l : List S44) (d : S44) (r : List S44) : Prop := dAll r = true ∧ (∀ x, x ∈ r ↔ x = d ∨ x ∈ l) ∧ r.length ≤ l.length + 1
theorem put_l0 (l : List S44) (hl : l.length ≤ 1048576) (ha : dAll l = true) (d : S44) (hd : dIn d) : ∀ (i : Nat), i ≤ l.length → (∀ x ∈ l.drop i, dLt d x) → ∃ r, PutOf l d r ∧ Ev (fun k => spec_l08Put.l0 k l (i : Int) d.f0 d.f1) r := by
  have hs := (dAll_iff l).1 ha
  have fin : ∀ i, i ≤ l.length → (∀ x ∈ l.drop i, dLt d x) → (∀ x ∈ l.take i, dLt x d) → PutOf l d ((([] ++ l.take i) ++ [d]) ++ l.drop i) := fun i hi h1 h2 => by
    have e : (([] ++ l.take i) ++ [d]) ++ l.drop i = l.take i ++ d :: l.drop i := by simp
    rw [e]
    refine ⟨(dAll_iff _).2 ⟨fun x hx => ?_, ?_⟩, fun x => ?_, ?_⟩
    · rcases List.mem_append.1 hx with hx | hx
      · exact hs.1 x (List.mem_of_mem_take hx)
      · rcases List.mem_cons.1 hx with rfl | hx
        · exact hd
        · exact hs.1 x (List.mem_of_mem_drop hx)
    · have h3 := hs.2
      rw [← List.take_append_drop i l, List.pairwise_append] at h3
      rw [List.pairwise_append, List.pairwise_cons]
      refine ⟨h3.1, ⟨h1, h3.2.1⟩, fun x hx y hy => ?_⟩
      rcases List.mem_cons.1 hy with rfl | hy
      · exact h2 x hx
      · exact h3.2.2 x hx y hy
    · rw [List.mem_append, List.mem_cons]
      constructor
      · rintro (hx | rfl | hx)
        · exact Or.inr (List.mem_of_mem_take hx)
        · exact Or.inl rfl
        · exact Or.inr (List.mem_of_mem_drop hx)
      · rintro (rfl | hx)
        · exact Or.inr (Or.inl rfl)
        · rw [← List.take_append_drop i l, List.mem_append] at hx
          rcases hx with hx | hx
          · exact Or.inl hx
          · exact Or.inr (Or.inr hx)
    · simp
      omega
  have hlt : ∀ i : Nat, (l.take i).length ≤ l.length := fun i => by rw [List.length_take]; omega
  have hdr : ∀ i : Nat, (l.drop i).length ≤ l.length := fun i => by rw [List.length_drop]; omega
  intro i
  induction i with
  | zero =>
    intro hi h1
    refine ⟨_, fin 0 hi h1 (fun x hx => by simp at hx), Ev.suc ?_⟩
    simp only [spec_l08Put.l0, Option.bind_some]
    have := hlt 0
    have := hdr 0
    refine Ev.ite_neg (by omega) (Ev.ite_pos (by omega) (Ev.ite_pos (by omega) ?_))
    refine Ev.ite_pos ?_ (Ev.ite_pos ?_ (Ev.ite_pos ?_ (Ev.now _)))
    · simp
    · simp
    · simp; omega
  | succ i ih =>
    intro hi h1
    have hi' : i < l.length := by omega
    have hw : wrap64 (((i + 1 : Nat) : Int) - 1) = (i : Int) := by rw [w64 (by omega) (by omega)]; omega
    have hx := rdD_at l i hi'
    have hdrop : l.drop i = l[i] :: l.drop (i + 1) := List.drop_eq_getElem_cons hi'
    have hmem : l[i] ∈ l := List.getElem_mem hi'
    by_cases q1 : dLt d l[i]
    · obtain ⟨r, hr, h⟩ := ih (by omega) (fun x hx => by
        rw [hdrop] at hx
        rcases List.mem_cons.1 hx with rfl | hx
        · exact q1
        · exact h1 x hx)
      refine ⟨r, hr, Ev.suc ?_⟩
      simp only [spec_l08Put.l0, hw, hx, less_f, Option.bind_some, decide_eq_true_eq]
      exact Ev.ite_pos (by omega) (Ev.ite_pos (by omega) (Ev.ite_pos (by omega) (Ev.ite_pos q1 h)))
    · by_cases q2 : l[i] = d
      · refine ⟨l, ⟨ha, fun x => ⟨fun h => Or.inr h, fun h => h.elim (fun e => e ▸ q2 ▸ hmem) id⟩, by omega⟩, Ev.suc ?_⟩
        simp only [spec_l08Put.l0, hw, hx, less_f, Option.bind_some, decide_eq_true_eq]
        refine Ev.ite_pos (by omega) (Ev.ite_pos (by omega) (Ev.ite_pos (by omega) (Ev.ite_neg q1 (Ev.ite_pos ?_ (Ev.now _)))))
        rw [q2]
        simp
      · have q3 : dLt l[i] d := by
          have : ¬ (l[i].f0 = d.f0 ∧ l[i].f1 = d.f1) := fun e => q2 (by
            have e1 : l[i] = ⟨l[i].f0, l[i].f1⟩ := rfl
            rw [e1, e.1, e.2])
          unfold dLt at *
          omega
        have h2 : ∀ x ∈ l.take (i + 1), dLt x d := fun x hx => by
          rw [← List.take_append_getElem hi', List.mem_append, List.mem_singleton] at hx
          rcases hx with hx | rfl
          · have h3 := hs.2
            rw [← List.take_append_drop i l, List.pairwise_append] at h3
            exact dLt_trans (h3.2.2 x hx l[i] (by rw [hdrop]; exact List.mem_cons_self)) q3
          · exact q3
        refine ⟨_, fin (i + 1) hi h1 h2, Ev.suc ?_⟩
        have := hlt (i + 1)
        have := hdr (i + 1)
        simp only [spec_l08Put.l0, hw, hx, less_f, Option.bind_some, decide_eq_true_eq]
        refine Ev.ite_pos (by omega) (Ev.ite_pos (by omega) (Ev.ite_pos (by omega) (Ev.ite_neg q1 (Ev.ite_neg ?_ (Ev.ite_pos (by omega) (Ev.ite_pos (by omega) ?_))))))
        · intro z
          rw [Bool.and_eq_true, beq_iff_eq, beq_iff_eq] at z
          exact q2 (by
            have e1 : l[i] = ⟨l[i].f0, l[i].f1⟩ := rfl
            rw [e1, z.1, z.2])
        · refine Ev.ite_pos ?_ (Ev.ite_pos ?_ (Ev.ite_pos ?_ (Ev.now _)))
          · simp; omega
          · simp; omega
          · simp; omega
theorem put_s (l : List S44) (hl : l.length ≤ 1048576) (ha : dAll l = true) (d : S44) (hd : dIn d) : ∃ r, PutOf l d r ∧ Ev (fun k => spec_l08Put.f k l d.f0 d.f1) r := by
  unfold spec_l08Put.f
  exact put_l0 l hl ha d hd l.length (Nat.le_refl _) (fun x hx => by rw [List.drop_length] at hx; cases hx)

/-! ### drawDepends -/
theorem l08List_l0 (b : List Int) : ∀ (d : Nat) (l : List S44) (i p h : Int), CurOk b p → dAll l = true → (l.length : Int) ≤ i → 0 ≤ i → (∀ x ∈ l, (0 ≤ x.f0 ∧ x.f0 ≤ 5) ∧ (0 ≤ x.f1 ∧ x.f1 ≤ 5)) → i ≤ 9 → (9 : Int) - i = d →
    ∃ r p' h', Ev (fun k => spec_l08List.l0 k l i b p h) (r, p', h') ∧ dAll r = true ∧ r.length ≤ 9 ∧ (∀ x ∈ r, (0 ≤ x.f0 ∧ x.f0 ≤ 5) ∧ (0 ≤ x.f1 ∧ x.f1 ≤ 5)) ∧ CurOk b p'
  | 0, l, i, p, h, hc, ha, hl, h0, hx, h9, hd => by
    obtain ⟨r, p', h', e, r0, r1, _, hc'⟩ := l01Below_f b p h 9 hc
    refine ⟨l, p', h', Ev.suc ?_, ha, by omega, hx, hc'⟩
    have := r1 (by omega)
    simp only [spec_l08List.l0, e, Option.bind_some]
    exact Ev.ite_neg (by omega) (Ev.now _)
  | d + 1, l, i, p, h, hc, ha, hl, h0, hx, h9, hd => by
    obtain ⟨r, p', h', e, r0, r1, _, hc'⟩ := l01Below_f b p h 9 hc
    have := r1 (by omega)
    by_cases q : i < r
    · obtain ⟨x, p1, h1, e1, x0, x1, _, hc1⟩ := l01Below_f b p' h' 6 hc'
      obtain ⟨y, p2, h2, e2, y0, y1, _, hc2⟩ := l01Below_f b p1 h1 6 hc1
      have := x1 (by omega)
      have := y1 (by omega)
      obtain ⟨l', ⟨a1, a2, a3⟩, a4⟩ := put_s l (by omega) ha ⟨x, y⟩ ⟨⟨x0, by show x ≤ 127; omega⟩, ⟨y0, by show y ≤ 127; omega⟩⟩
      obtain ⟨r2, p3, h3, e3, g⟩ := l08List_l0 b d l' (i + 1) p2 h2 hc2 a1 (by omega) (by omega) (fun z hz => by
        rcases (a2 z).1 hz with rfl | hz
        · exact ⟨⟨x0, by show x ≤ 5; omega⟩, ⟨y0, by show y ≤ 5; omega⟩⟩
        · exact hx z hz) (by omega) (by omega)
      refine ⟨r2, p3, h3, Ev.suc ?_, g⟩
      simp only [spec_l08List.l0, e, e1, e2, Option.bind_some]
      refine Ev.ite_pos q (Ev.bind a4 ?_)
      rw [w64 (by omega) (by omega)]
      exact e3
    · refine ⟨l, p', h', Ev.suc ?_, ha, by omega, hx, hc'⟩
      simp only [spec_l08List.l0, e, Option.bind_some]
      exact Ev.ite_neg q (Ev.now _)
/-- Drawn dependencies are valid, and their channels lie in 0..5. -/
theorem DrawDepends_f (b : List Int) (hb : b.length ≤ 140737488351232) : ∃ l, Ev (fun k => spec_DrawDepends.f k b) l ∧ dAll l = true ∧ l.length ≤ 9 ∧ ∀ x ∈ l, (0 ≤ x.f0 ∧ x.f0 ≤ 5) ∧ (0 ≤ x.f1 ∧ x.f1 ≤ 5) := by
  obtain ⟨h', hn⟩ := l01New_f b hb
  obtain ⟨r, p', h2, e, g1, g2, g3, _⟩ := l08List_l0 b 9 [] 0 0 h' (l01New_ok b hb) rfl (by simp) (by omega) (fun x hx => by cases hx) (by omega) (by omega)
  refine ⟨r, ?_, g1, g2, g3⟩
  unfold spec_DrawDepends.f spec_l08List.f
  exact Ev.bind hn (Ev.bind e (Ev.now _))

/-! ### walk -/
/-- A walk of n edges. -/
def Wk (adj : Int → Int → Prop) : Nat → Int → Int → Prop
  | 0, a, c => a = c
  | n + 1, a, c => ∃ b, adj a b ∧ Wk adj n b c
theorem Wk.snoc {adj : Int → Int → Prop} {b c : Int} (h : adj b c) : ∀ {n : Nat} {a : Int}, Wk adj n a b → Wk adj (n + 1) a c
  | 0, a, hw => ⟨c, (show a = b from hw) ▸ h, rfl⟩
  | n + 1, a, ⟨x, hx, hw⟩ => ⟨x, hx, Wk.snoc h hw⟩
theorem Wk.append {adj : Int → Int → Prop} {b c : Int} {m : Nat} (h : Wk adj m b c) : ∀ {n : Nat} {a : Int}, Wk adj n a b → Wk adj (n + m) a c
  | 0, a, hw => by
    have e : a = b := hw
    rw [e, Nat.zero_add]
    exact h
  | n + 1, a, ⟨x, hx, hw⟩ => by
    rw [Nat.add_right_comm]
    exact ⟨x, hx, Wk.append h hw⟩
theorem Wk.last {adj : Int → Int → Prop} {c : Int} : ∀ {n : Nat} {a : Int}, Wk adj (n + 1) a c → ∃ b, Wk adj n a b ∧ adj b c
  | 0, a, ⟨x, hx, hw⟩ => ⟨a, rfl, (show x = c from hw) ▸ hx⟩
  | n + 1, a, ⟨x, hx, hw⟩ => by
    obtain ⟨b, h1, h2⟩ := Wk.last hw
    exact ⟨b, ⟨x, hx, h1⟩, h2⟩
theorem Wk.split {adj : Int → Int → Prop} {c : Int} {m : Nat} : ∀ {n : Nat} {a : Int}, Wk adj (n + m) a c → ∃ b, Wk adj n a b ∧ Wk adj m b c
  | 0, a, h => by
    rw [Nat.zero_add] at h
    exact ⟨a, rfl, h⟩
  | n + 1, a, h => by
    rw [Nat.add_right_comm] at h
    obtain ⟨x, hx, hw⟩ := h
    obtain ⟨b, h1, h2⟩ := Wk.split hw
    exact ⟨b, ⟨x, hx, h1⟩, h2⟩
theorem Wk.mono {adj adj' : Int → Int → Prop} (h : ∀ a b, adj a b → adj' a b) {c : Int} : ∀ {n : Nat} {a : Int}, Wk adj n a c → Wk adj' n a c
  | 0, _, hw => hw
  | _ + 1, _, ⟨x, hx, hw⟩ => ⟨x, h _ _ hx, Wk.mono h hw⟩
/-- The least number of edges, at least one. -/
def PD (adj : Int → Int → Prop) (a b : Int) (m : Nat) : Prop := 0 < m ∧ Wk adj m a b ∧ ∀ j, 0 < j → j < m → ¬ Wk adj j a b
/-- What 'steps between' says: -1 for none. -/
def SB (adj : Int → Int → Prop) (a b v : Int) : Prop := (v = -1 ∧ ∀ n, 0 < n → ¬ Wk adj n a b) ∨ ∃ m : Nat, v = (m : Int) ∧ PD adj a b m
theorem PD.unique {adj : Int → Int → Prop} {a b : Int} {m n : Nat} (h : PD adj a b m) (k : PD adj a b n) : m = n := by
  obtain ⟨h1, h2, h3⟩ := h
  obtain ⟨k1, k2, k3⟩ := k
  rcases Nat.lt_trichotomy m n with h | h | h
  · exact absurd h2 (k3 m h1 h)
  · exact h
  · exact absurd k2 (h3 n k1 h)
theorem SB.unique {adj : Int → Int → Prop} {a b v u : Int} (h : SB adj a b v) (k : SB adj a b u) : v = u := by
  rcases h with ⟨rfl, h⟩ | ⟨m, rfl, h⟩
  · rcases k with ⟨rfl, _⟩ | ⟨n, rfl, k⟩
    · rfl
    · exact absurd k.2.1 (h n k.1)
  · rcases k with ⟨rfl, k⟩ | ⟨n, rfl, k⟩
    · exact absurd h.2.1 (k m h.1)
    · rw [h.unique k]
/-- A least one of what holds somewhere. -/
theorem least {P : Nat → Prop} (n : Nat) : P n → ∃ m, P m ∧ m ≤ n ∧ ∀ j, j < m → ¬ P j := by
  induction n using Nat.strongRecOn with
  | _ n ih =>
    intro h
    by_cases hs : ∃ j, j < n ∧ P j
    · obtain ⟨j, hj, hp⟩ := hs
      obtain ⟨m, hm, hmn, hl⟩ := ih j hj hp
      exact ⟨m, hm, by omega, hl⟩
    · exact ⟨n, h, Nat.le_refl _, fun j hj hp => hs ⟨j, hj, hp⟩⟩
theorem PD.of {adj : Int → Int → Prop} {a b : Int} {n : Nat} (h0 : 0 < n) (h : Wk adj n a b) : ∃ m, PD adj a b m ∧ m ≤ n := by
  obtain ⟨m, ⟨h1, h2⟩, hmn, hl⟩ := least (P := fun n => 0 < n ∧ Wk adj n a b) n ⟨h0, h⟩
  exact ⟨m, ⟨h1, h2, fun j hj hjm hw => hl j hjm ⟨hj, hw⟩⟩, hmn⟩

/-! ### succ -/
/-- The successors of a channel, in the order of the list. -/
def su (l : List S44) (a : Int) : List Int := (l.filter (fun x => decide (x.f0 = a))).map (fun x => x.f1)
abbrev adjL (l : List S44) (a b : Int) : Prop := ∃ x, x ∈ l ∧ x.f0 = a ∧ x.f1 = b
theorem su_mem (l : List S44) (a b : Int) : b ∈ su l a ↔ adjL l a b := by
  unfold su adjL
  rw [List.mem_map]
  constructor
  · rintro ⟨x, hx, rfl⟩
    rw [List.mem_filter, decide_eq_true_eq] at hx
    exact ⟨x, hx.1, hx.2, rfl⟩
  · rintro ⟨x, hx, rfl, rfl⟩
    exact ⟨x, List.mem_filter.2 ⟨hx, decide_eq_true rfl⟩, rfl⟩
theorem su_cons_pos (x : S44) (r : List S44) (a : Int) (h : x.f0 = a) : su (x :: r) a = x.f1 :: su r a := by
  unfold su
  rw [List.filter_cons, if_pos (decide_eq_true h), List.map_cons]
theorem su_cons_neg (x : S44) (r : List S44) (a : Int) (h : ¬ x.f0 = a) : su (x :: r) a = su r a := by
  unfold su
  rw [List.filter_cons, if_neg (by rw [decide_eq_true_eq]; exact h)]
theorem su_len (l : List S44) (a : Int) : (su l a).length ≤ l.length := by
  unfold su
  rw [List.length_map]
  exact List.length_filter_le _ _
theorem dGo_in : ∀ (r : List S44) (y : S44), dGo y r = true → ∀ x ∈ r, dIn x
  | [], _, _, x, hx => by cases hx
  | z :: r, y, h, x, hx => by
    rw [dGo_cons, Bool.and_eq_true, Bool.and_eq_true] at h
    rcases List.mem_cons.1 hx with rfl | hx
    · exact of_decide_eq_true h.1
    · exact dGo_in r z h.2.2 x hx
theorem dAll_in : ∀ (l : List S44), dAll l = true → ∀ x ∈ l, dIn x
  | [], _, x, hx => by cases hx
  | z :: r, h, x, hx => by
    rw [dAll_cons, Bool.and_eq_true] at h
    rcases List.mem_cons.1 hx with rfl | hx
    · exact of_decide_eq_true h.1
    · exact dGo_in r z h.2 x hx
theorem adjL_in {l : List S44} (hd : ∀ x ∈ l, dIn x) {a b : Int} (h : adjL l a b) : (0 ≤ a ∧ a ≤ 127) ∧ (0 ≤ b ∧ b ≤ 127) := by
  obtain ⟨x, hx, rfl, rfl⟩ := h
  exact hd x hx
theorem rd_eq (l : List Int) (i : Int) : rd l i = l.getD i.toNat 0 := rfl
theorem rd_setI (D : List Int) (v n u : Int) (h0 : 0 ≤ v) (h1 : v < (D.length : Int)) (hu : 0 ≤ u) : rd (D.set v.toNat n) u = if u = v then n else rd D u := by
  rw [rd_eq, rd_eq, List.getD_eq_getElem?_getD, List.getD_eq_getElem?_getD, List.getElem?_set]
  by_cases h : u = v
  · subst h
    rw [if_pos rfl, if_pos (by omega), if_pos rfl]
    rfl
  · rw [if_neg h, if_neg (by omega)]
theorem count_setI (D : List Int) (v n b : Int) (h0 : 0 ≤ v) (h1 : v < (D.length : Int)) (he : rd D v = b) (hn : n ≠ b) : (D.set v.toNat n).count b + 1 = D.count b := by
  have hl : v.toNat < D.length := by omega
  have e : D[v.toNat] = b := by
    rw [rd_eq, List.getD_eq_getElem?_getD, List.getElem?_eq_getElem hl] at he
    exact he
  have hp : 0 < D.count b := List.count_pos_iff.2 (e ▸ List.getElem_mem hl)
  rw [List.count_set hl, e, if_pos (by simp), if_neg (by simpa using hn)]
  omega

/-! ### succ_i -/
theorem succ_i_l0 (a : Int) : ∀ (rest pre : List S44) (acc : List Int), pre.length + rest.length ≤ 1048576 → acc.length + rest.length ≤ 1048576 → Ev (fun k => impl_SuccessorsOf.l0 k a acc (pre ++ rest) ((pre ++ rest).length : Int) (pre.length : Int)) (acc ++ su rest a)
  | [], pre, acc, _, _ => by
    refine Ev.suc ?_
    simp only [impl_SuccessorsOf.l0]
    exact Ev.ite_neg (by simp) (Ev.val (by simp [su]))
  | x :: rest, pre, acc, hl, ha => by
    simp only [List.length_cons] at hl ha
    have h1 : (pre.length : Int) < ((pre ++ x :: rest).length : Int) := by simp only [List.length_append, List.length_cons]; omega
    have hw : wrap64 ((pre.length : Int) + 1) = ((pre ++ [x]).length : Int) := by rw [w64 (by omega) (by omega), len_snoc]
    refine Ev.suc ?_
    simp only [impl_SuccessorsOf.l0, rdI_Depend, hw]
    refine Ev.ite_pos h1 (Ev.ite_pos (by omega) (Ev.ite_pos h1 (Ev.ite (fun c => Ev.ite_pos (by omega) ?_) (fun c => ?_))))
    · have ih := succ_i_l0 a rest (pre ++ [x]) (acc ++ [x.f1]) (by simp only [List.length_append, List.length_cons, List.length_nil]; omega) (by simp only [List.length_append, List.length_cons, List.length_nil]; omega)
      rw [← snoc_app pre x rest] at ih
      exact Ev.eq ih (by rw [su_cons_pos x rest a c, List.append_assoc]; rfl)
    · have ih := succ_i_l0 a rest (pre ++ [x]) acc (by simp only [List.length_append, List.length_cons, List.length_nil]; omega) (by omega)
      rw [← snoc_app pre x rest] at ih
      exact Ev.eq ih (by rw [su_cons_neg x rest a c])
theorem succ_i (l : List S44) (a : Int) (hl : l.length ≤ 1048576) : Ev (fun k => impl_SuccessorsOf.f k l a) (su l a) := by
  unfold impl_SuccessorsOf.f
  exact succ_i_l0 a l [] [] (by simpa using hl) (by simpa using hl)

/-! ### cycleW -/
theorem Wk.cons {adj : Int → Int → Prop} {n : Nat} {a b c : Int} (h : adj a b) (w : Wk adj n b c) : Wk adj (n + 1) a c := ⟨b, h, w⟩
/-- How far a goal is: the least number of edges, -1 for none. -/
def DT (adj : Int → Int → Prop) (goal v x : Int) : Prop := (x = -1 ∧ ∀ n, ¬ Wk adj n v goal) ∨ ∃ m : Nat, x = (m : Int) ∧ Wk adj m v goal ∧ ∀ j, j < m → ¬ Wk adj j v goal
/-- How far a channel is: the least positive number of edges, 0 for none. -/
def D0 (adj : Int → Int → Prop) (a b x : Int) : Prop := (x = 0 ∧ ∀ n, 0 < n → ¬ Wk adj n a b) ∨ ∃ m : Nat, x = (m : Int) ∧ PD adj a b m
theorem D0.nonneg {adj : Int → Int → Prop} {a b x : Int} (h : D0 adj a b x) : 0 ≤ x := by
  rcases h with ⟨rfl, _⟩ | ⟨m, rfl, _⟩ <;> omega
theorem DT.ge {adj : Int → Int → Prop} {a b x : Int} (h : DT adj a b x) : -1 ≤ x := by
  rcases h with ⟨rfl, _⟩ | ⟨m, rfl, _⟩ <;> omega
theorem DT.walk {adj : Int → Int → Prop} {g v x : Int} (h : DT adj g v x) (h0 : 0 ≤ x) : Wk adj x.toNat v g := by
  rcases h with ⟨rfl, _⟩ | ⟨m, rfl, h, _⟩
  · omega
  · exact h
theorem DT.le {adj : Int → Int → Prop} {g v x : Int} (h : DT adj g v x) {n : Nat} (hw : Wk adj n v g) : 0 ≤ x ∧ x ≤ (n : Int) := by
  rcases h with ⟨_, h⟩ | ⟨m, rfl, _, h⟩
  · exact absurd hw (h n)
  · refine ⟨by omega, ?_⟩
    rcases Nat.lt_or_ge n m with hl | hl
    · exact absurd hw (h n hl)
    · omega
theorem D0.walk {adj : Int → Int → Prop} {a b x : Int} (h : D0 adj a b x) (h0 : 0 < x) : Wk adj x.toNat a b := by
  rcases h with ⟨rfl, _⟩ | ⟨m, rfl, h⟩
  · omega
  · exact h.2.1
theorem D0.le {adj : Int → Int → Prop} {a b x : Int} (h : D0 adj a b x) {n : Nat} (hn : 0 < n) (hw : Wk adj n a b) : 0 < x ∧ x ≤ (n : Int) := by
  rcases h with ⟨_, h⟩ | ⟨m, rfl, h⟩
  · exact absurd hw (h n hn)
  · refine ⟨by have := h.1; omega, ?_⟩
    rcases Nat.lt_or_ge n m with hl | hl
    · exact absurd hw (h.2.2 n hn hl)
    · omega
theorem DT.self {adj : Int → Int → Prop} {g x : Int} (h : DT adj g g x) : x = 0 := by
  have := h.le (n := 0) rfl
  omega
theorem DT.zero {adj : Int → Int → Prop} {g v : Int} (h : DT adj g v 0) : v = g := h.walk (by omega)
/-- The edges out of channels not below a least one. -/
def adjF (adj : Int → Int → Prop) (s : Int) (a b : Int) : Prop := adj a b ∧ s ≤ a
theorem adjF.lift {adj : Int → Int → Prop} {s : Int} {n : Nat} {a b : Int} (h : Wk (adjF adj s) n a b) : Wk adj n a b := Wk.mono (fun _ _ h => h.1) h
/-- A shortest closed walk: its length is g, its first channel the least that any such one has. -/
structure Girth (adj : Int → Int → Prop) (s : Int) (g : Nat) : Prop where
  pos : 0 < g
  wk : Wk adj g s s
  least : ∀ c n, 0 < n → Wk adj n c c → g ≤ n
  first : ∀ c n, c < s → 0 < n → Wk adj n c c → g < n
theorem Girth.on {adj : Int → Int → Prop} {s v : Int} {g p q : Nat} (h : Girth adj s g) (h1 : Wk adj p s v) (h2 : Wk adj q v s) (e : p + q = g) : s ≤ v := by
  rcases Int.lt_or_le v s with hl | hl
  · have := h.first v (q + p) hl (by have := h.pos; omega) (Wk.append h1 h2)
    omega
  · exact hl
theorem Girth.restrict {adj : Int → Int → Prop} {s : Int} {g : Nat} (h : Girth adj s g) : ∀ (q p : Nat) (v : Int), Wk adj p s v → Wk adj q v s → p + q = g → Wk (adjF adj s) q v s
  | 0, _, _, _, h2, _ => h2
  | q + 1, p, v, h1, ⟨b, hb, h2⟩, e => ⟨b, ⟨hb, h.on h1 (Wk.cons hb h2) e⟩, h.restrict q (p + 1) b (Wk.snoc hb h1) h2 (by omega)⟩
theorem Girth.ge {adj : Int → Int → Prop} {s a c x : Int} {g i n : Nat} (h : Girth adj s g) (e : i + n + 1 = g) (h1 : Wk adj i s a) (hc : adj a c) (hx : DT (adjF adj s) s c x) (h0 : 0 ≤ x) : (n : Int) ≤ x := by
  have hw := adjF.lift (hx.walk h0)
  have := h.least s (i + (x.toNat + 1)) (by omega) (Wk.append (Wk.cons hc hw) h1)
  omega
theorem Girth.same {adj : Int → Int → Prop} {s a c x y : Int} {g i n : Nat} (h : Girth adj s g) (e : i + n + 1 = g) (h1 : Wk adj i s a) (hc : adj a c) (hx : DT (adjF adj s) s c x) (hy : D0 adj c s y) :
    (s ≤ c ∧ x = (n : Int)) ↔ ((n = 0 ∧ c = s) ∨ (0 < n ∧ c ≠ s ∧ y = (n : Int))) := by
  constructor
  · rintro ⟨h2, rfl⟩
    rcases Nat.eq_zero_or_pos n with h0 | h0
    · subst h0
      exact Or.inl ⟨rfl, hx.zero⟩
    · have hw := adjF.lift (hx.walk (by omega))
      rw [Int.toNat_natCast] at hw
      obtain ⟨y0, y1⟩ := hy.le h0 hw
      have hw2 := hy.walk y0
      have := h.least s (i + (y.toNat + 1)) (by omega) (Wk.append (Wk.cons hc hw2) h1)
      refine Or.inr ⟨h0, fun hcs => ?_, by omega⟩
      subst hcs
      have := hx.self
      omega
  · rintro (⟨rfl, rfl⟩ | ⟨h0, hne, rfl⟩)
    · exact ⟨Int.le_refl _, by rw [hx.self]; rfl⟩
    · have hw := hy.walk (by omega)
      rw [Int.toNat_natCast] at hw
      have h3 := Wk.snoc hc h1
      have := hx.le (h.restrict n (i + 1) c h3 hw (by omega))
      have := h.ge e h1 hc hx (by omega)
      exact ⟨h.on h3 hw (by omega), by omega⟩
theorem Girth.near {adj : Int → Int → Prop} {s a : Int} {g i n : Nat} (h : Girth adj s g) (e : i + n + 1 = g) (h1 : Wk adj i s a) (h2 : Wk adj (n + 1) a s) :
    ∃ c, adj a c ∧ s ≤ c ∧ Wk adj n c s ∧ Wk adj (i + 1) s c ∧ ∀ x, DT (adjF adj s) s c x → x = (n : Int) := by
  obtain ⟨c, hc, hw⟩ := h2
  have h3 := Wk.snoc hc h1
  refine ⟨c, hc, h.on h3 hw (by omega), hw, h3, fun x hx => ?_⟩
  have := hx.le (h.restrict n (i + 1) c h3 hw (by omega))
  have := h.ge e h1 hc hx (by omega)
  omega
/-- The channels of a shortest cycle, each the first successor that is near enough. -/
def pathF (su : Int → List Int) (ok : Nat → Int → Bool) : Nat → Int → List Int
  | 0, _ => []
  | n + 1, a => a :: (match (su a).find? (ok n) with
    | some c => pathF su ok n c
    | none => [])
theorem pathF_succ (su : Int → List Int) (ok : Nat → Int → Bool) (n : Nat) (a : Int) : pathF su ok (n + 1) a = a :: (match (su a).find? (ok n) with
    | some c => pathF su ok n c
    | none => []) := rfl
theorem pathF_some {su : Int → List Int} {ok : Nat → Int → Bool} {n : Nat} {a c : Int} (h : (su a).find? (ok n) = some c) : pathF su ok (n + 1) a = a :: pathF su ok n c := by
  rw [pathF_succ, h]
theorem find_some {α : Type} {p : α → Bool} {l : List α} (h : ∃ x, x ∈ l ∧ p x = true) : ∃ x, l.find? p = some x ∧ x ∈ l ∧ p x = true := by
  cases e : l.find? p with
  | none =>
    obtain ⟨x, hx, hp⟩ := h
    exact absurd hp (List.find?_eq_none.1 e x hx)
  | some x => exact ⟨x, rfl, List.mem_of_find?_eq_some e, List.find?_some e⟩
theorem find_congr {α : Type} {p q : α → Bool} : ∀ {l : List α}, (∀ x ∈ l, p x = q x) → l.find? p = l.find? q
  | [], _ => rfl
  | x :: l, h => by
    rw [List.find?_cons, List.find?_cons, h x List.mem_cons_self, find_congr (fun y hy => h y (List.mem_cons_of_mem _ hy))]

/-! ### dist_i -/
/-- What holds while the channels that lead to a goal are found: O the numbers so far, P the channels gone through, T those still to be gone through. -/
structure QI (E : Int → Int → Prop) (goal : Int) (O P T : List Int) : Prop where
  len : O.length = 128
  val : ∀ v, 0 ≤ v → v ≤ 127 → -1 ≤ rd O v ∧ rd O v < ((P ++ T).length : Int) ∧ (0 ≤ rd O v → Wk E (rd O v).toNat v goal)
  mem : ∀ v, 0 ≤ v → v ≤ 127 → (v ∈ P ++ T ↔ 0 ≤ rd O v)
  nin : ∀ v, v ∈ P ++ T → 0 ≤ v ∧ v ≤ 127
  srt : (P ++ T).Pairwise (fun x y => rd O x ≤ rd O y)
  top : ∀ c R, T = c :: R → ∀ v, v ∈ P ++ T → rd O v ≤ rd O c + 1
  clo : ∀ v, v ∈ P → ∀ u, E u v → 0 ≤ rd O u ∧ rd O u ≤ rd O v + 1
  goal0 : rd O goal = 0
  cnt : O.count (-1) + (P ++ T).length = 128
theorem QI.put {E : Int → Int → Prop} {goal : Int} {O P R : List Int} {c s : Int} (h : QI E goal O P (c :: R)) (hE : ∀ x y, E x y → 0 ≤ x ∧ x ≤ 127) (hg : 0 ≤ goal ∧ goal ≤ 127) (hs : E s c) (h0 : rd O s < 0) :
    QI E goal (O.set s.toNat (rd O c + 1)) P (c :: (R ++ [s])) := by
  have hr := hE s c hs
  have hl := h.len
  have hcm : c ∈ P ++ (c :: R) := List.mem_append.2 (Or.inr List.mem_cons_self)
  have hcr := h.nin c hcm
  have hc0 := (h.mem c hcr.1 hcr.2).1 hcm
  have hcv := h.val c hcr.1 hcr.2
  have hsn : s ∉ P ++ (c :: R) := fun z => by have := (h.mem s hr.1 hr.2).1 z; omega
  have hG : ∀ u, 0 ≤ u → rd (O.set s.toNat (rd O c + 1)) u = if u = s then rd O c + 1 else rd O u := fun u hu => rd_setI O s _ u hr.1 (by omega) hu
  have hsame : ∀ u, u ∈ P ++ (c :: R) → rd (O.set s.toNat (rd O c + 1)) u = rd O u := fun u hu => by
    rw [hG u (h.nin u hu).1, if_neg (by rintro rfl; exact hsn hu)]
  have happ : P ++ (c :: (R ++ [s])) = (P ++ (c :: R)) ++ [s] := by simp
  have hcs : c ≠ s := fun e => hsn (e ▸ hcm)
  have h1 : rd O s = -1 := by have := (h.val s hr.1 hr.2).1; omega
  refine ⟨by rw [List.length_set]; exact hl, fun v v0 v1 => ?_, fun v v0 v1 => ?_, fun v hv => ?_, ?_, fun c' R' e v hv => ?_, fun v hv u hu => ?_, ?_, ?_⟩
  · rw [hG v v0, happ, List.length_append, List.length_singleton]
    by_cases e : v = s
    · rw [if_pos e]
      refine ⟨by omega, by omega, fun _ => ?_⟩
      rw [e, show (rd O c + 1).toNat = (rd O c).toNat + 1 by omega]
      exact Wk.cons hs (hcv.2.2 hc0)
    · rw [if_neg e]
      have := h.val v v0 v1
      exact ⟨this.1, by omega, this.2.2⟩
  · rw [hG v v0, happ, List.mem_append, List.mem_singleton, h.mem v v0 v1]
    by_cases e : v = s
    · simp only [e, if_pos, or_true, true_iff]
      omega
    · simp [e]
  · rw [happ] at hv
    rcases List.mem_append.1 hv with hv | hv
    · exact h.nin v hv
    · rw [List.mem_singleton.1 hv]
      exact hr
  · rw [happ, List.pairwise_append]
    refine ⟨List.Pairwise.imp_of_mem (fun {x y} hx hy hxy => by rw [hsame x hx, hsame y hy]; exact hxy) h.srt, List.pairwise_singleton _ _, fun x hx y hy => ?_⟩
    rw [List.mem_singleton.1 hy, hsame x hx, hG s hr.1, if_pos rfl]
    exact h.top c R rfl x hx
  · injection e with e1 e2
    subst e1
    rw [hsame c hcm]
    rw [happ] at hv
    rcases List.mem_append.1 hv with hv | hv
    · rw [hsame v hv]
      exact h.top c R rfl v hv
    · rw [List.mem_singleton.1 hv, hG s hr.1, if_pos rfl]
      omega
  · have := h.clo v hv u hu
    rw [hsame v (List.mem_append.2 (Or.inl hv)), hG u (hE u v hu).1, if_neg (by rintro rfl; omega)]
    exact this
  · rw [hG goal hg.1, if_neg (by rintro rfl; have := h.goal0; omega)]
    exact h.goal0
  · have := count_setI O s (rd O c + 1) (-1) hr.1 (by omega) h1 (by omega)
    have := h.cnt
    rw [happ, List.length_append, List.length_singleton]
    omega
theorem QI.next {E : Int → Int → Prop} {goal : Int} {O P R : List Int} {c : Int} (h : QI E goal O P (c :: R)) (hs : ∀ u, E u c → 0 ≤ rd O u ∧ rd O u ≤ rd O c + 1) : QI E goal O (P ++ [c]) R := by
  have happ : (P ++ [c]) ++ R = P ++ (c :: R) := by simp
  refine ⟨h.len, by rw [happ]; exact h.val, by rw [happ]; exact h.mem, by rw [happ]; exact h.nin, by rw [happ]; exact h.srt, fun c' R' e v hv => ?_, fun v hv u hu => ?_, h.goal0, by rw [happ]; exact h.cnt⟩
  · rw [happ] at hv
    have h1 := h.top c R rfl v hv
    have h2 := h.srt
    rw [e, List.pairwise_append] at h2
    have h3 := (List.pairwise_cons.1 h2.2.1).1 c' List.mem_cons_self
    omega
  · rcases List.mem_append.1 hv with hv | hv
    · exact h.clo v hv u hu
    · rw [List.mem_singleton.1 hv] at hu ⊢
      exact hs u hu
theorem QI.close {E : Int → Int → Prop} {goal : Int} {O P : List Int} (h : QI E goal O P []) (hE : ∀ x y, E x y → 0 ≤ x ∧ x ≤ 127) (hg : 0 ≤ goal ∧ goal ≤ 127) : ∀ (n : Nat) (v : Int), Wk E n v goal → (0 ≤ v ∧ v ≤ 127) ∧ 0 ≤ rd O v ∧ rd O v ≤ (n : Int)
  | 0, v, hw => by
    have e : v = goal := hw
    rw [e, h.goal0]
    exact ⟨hg, by omega, by omega⟩
  | n + 1, v, ⟨b, hb, hw⟩ => by
    obtain ⟨h1, h2, h3⟩ := h.close hE hg n b hw
    have hm := (h.mem b h1.1 h1.2).2 h2
    rw [List.append_nil] at hm
    have := h.clo b hm v hb
    exact ⟨hE v b hb, this.1, by omega⟩
theorem QI.dt {E : Int → Int → Prop} {goal : Int} {O P : List Int} (h : QI E goal O P []) (hE : ∀ x y, E x y → 0 ≤ x ∧ x ≤ 127) (hg : 0 ≤ goal ∧ goal ≤ 127) (v : Int) (v0 : 0 ≤ v) (v1 : v ≤ 127) : DT E goal v (rd O v) ∧ rd O v ≤ 127 := by
  have hv := h.val v v0 v1
  have hc := h.cnt
  refine ⟨?_, by omega⟩
  by_cases h0 : 0 ≤ rd O v
  · refine Or.inr ⟨(rd O v).toNat, by omega, hv.2.2 h0, fun j hj hw => ?_⟩
    have := (h.close hE hg j v hw).2
    omega
  · refine Or.inl ⟨by omega, fun n hw => ?_⟩
    have := (h.close hE hg n v hw).2
    omega
theorem dist_l1 (l : List S44) (hl : l.length ≤ 1048576) (hd : ∀ x ∈ l, dIn x) (goal least : Int) (hg : 0 ≤ goal ∧ goal ≤ 127) (c : Int) (P : List Int) (G : List Int → Prop) : ∀ (rest pre : List S44) (O R : List Int), l = pre ++ rest →
    QI (adjF (adjL l) least) goal O P (c :: R) → (∀ x ∈ pre, x.f1 = c → least ≤ x.f0 → 0 ≤ rd O x.f0 ∧ rd O x.f0 ≤ rd O c + 1) →
    (∀ O' R', QI (adjF (adjL l) least) goal O' P (c :: R') → (∀ x ∈ l, x.f1 = c → least ≤ x.f0 → 0 ≤ rd O' x.f0 ∧ rd O' x.f0 ≤ rd O' c + 1) → ∃ r, G r ∧ Ev (fun k => impl_distancesTo.l0 k l least O' (P ++ c :: R') (wrap64 ((P.length : Int) + 1))) r) →
    ∃ r, G r ∧ Ev (fun k => impl_distancesTo.l1 k l least O (P ++ c :: R) (P.length : Int) l (l.length : Int) (pre.length : Int)) r
  | [], pre, O, R, e, hi, hp, hk => by
    rw [List.append_nil] at e
    obtain ⟨r, hG, this⟩ := hk O R hi (by rw [e]; exact e ▸ hp)
    refine ⟨r, hG, Ev.suc ?_⟩
    simp only [impl_distancesTo.l1]
    exact Ev.ite_neg (by rw [e]; omega) this
  | x :: rest, pre, O, R, e, hi, hp, hk => by
    have hlen : pre.length + (rest.length + 1) = l.length := by rw [e]; simp
    have h1 : (pre.length : Int) < (l.length : Int) := by omega
    have hw : wrap64 ((pre.length : Int) + 1) = ((pre ++ [x]).length : Int) := by rw [w64 (by omega) (by omega), len_snoc]
    have hx : rd_T44 l (pre.length : Int) = x := by rw [e]; exact rdI_Depend pre x rest
    have hxm : x ∈ l := by rw [e]; exact List.mem_append.2 (Or.inr List.mem_cons_self)
    have hxr := hd x hxm
    have hE : ∀ x y, adjF (adjL l) least x y → 0 ≤ x ∧ x ≤ 127 := fun x y h => (adjL_in hd h.1).1
    have hq : rd (P ++ c :: R) (P.length : Int) = c := rd_mid P c R
    have hql : (P.length : Int) < ((P ++ c :: R).length : Int) := by simp only [List.length_append, List.length_cons]; omega
    have hOl := hi.len
    have hcm : c ∈ P ++ (c :: R) := List.mem_append.2 (Or.inr List.mem_cons_self)
    have hcr := hi.nin c hcm
    have hcnt := hi.cnt
    have hcv := hi.val c hcr.1 hcr.2
    have e' : l = (pre ++ [x]) ++ rest := by rw [e]; simp
    have hskip : (x.f1 = c → least ≤ x.f0 → 0 ≤ rd O x.f0 ∧ rd O x.f0 ≤ rd O c + 1) → ∃ r, G r ∧ Ev (fun k => impl_distancesTo.l1 k l least O (P ++ c :: R) (P.length : Int) l (l.length : Int) ((pre ++ [x]).length : Int)) r := fun hx' =>
      dist_l1 l hl hd goal least hg c P G rest (pre ++ [x]) O R e' hi (fun y hy => by
        rcases List.mem_append.1 hy with hy | hy
        · exact hp y hy
        · rw [List.mem_singleton.1 hy]
          exact hx') hk
    by_cases q1 : x.f1 = c
    · by_cases q2 : least ≤ x.f0
      · by_cases q3 : rd O x.f0 < 0
        · have hs : adjF (adjL l) least x.f0 c := ⟨⟨x, hxm, rfl, q1⟩, q2⟩
          have hi' := hi.put hE hg hs q3
          have hG' : ∀ u, 0 ≤ u → rd (O.set x.f0.toNat (rd O c + 1)) u = if u = x.f0 then rd O c + 1 else rd O u := fun u hu => rd_setI O x.f0 _ u hxr.1.1 (by omega) hu
          have hc0 := (hi.mem c hcr.1 hcr.2).1 hcm
          have hcx : ¬ c = x.f0 := by rintro rfl; omega
          obtain ⟨r, hG, ih⟩ := dist_l1 l hl hd goal least hg c P G rest (pre ++ [x]) (O.set x.f0.toNat (rd O c + 1)) (R ++ [x.f0]) e' hi' (fun y hy hy1 hy2 => by
            have hyl : y ∈ l := by rw [e']; exact List.mem_append.2 (Or.inl hy)
            have hyr := hd y hyl
            rw [hG' c hcr.1, if_neg hcx, hG' y.f0 hyr.1.1]
            by_cases ey : y.f0 = x.f0
            · rw [if_pos ey]; omega
            · rw [if_neg ey]
              rcases List.mem_append.1 hy with hy | hy
              · exact hp y hy hy1 hy2
              · rw [List.mem_singleton.1 hy] at ey
                exact absurd rfl ey) hk
          refine ⟨r, hG, Ev.suc ?_⟩
          have hw2 : wrap64 (rd O c + 1) = rd O c + 1 := w64 (by omega) (by omega)
          have happ : (P ++ c :: R) ++ [x.f0] = P ++ c :: (R ++ [x.f0]) := by simp
          simp only [impl_distancesTo.l1, hx, hw, hq, hw2, happ]
          exact Ev.ite_pos h1 (Ev.ite_pos (by omega) (Ev.ite_pos h1 (Ev.ite_pos (by omega) (Ev.ite_pos hql (Ev.ite_pos q1 (Ev.ite_pos q2 (Ev.ite_pos hxr.1.1 (Ev.ite_pos (by omega) (Ev.ite_pos q3 (Ev.ite_pos hcr.1 (Ev.ite_pos (by omega) (Ev.ite_pos (by omega) ih))))))))))))
        · obtain ⟨r, hG, ih⟩ := hskip (fun _ _ => ⟨by omega, by
            have hm := (hi.mem x.f0 hxr.1.1 hxr.1.2).2 (by omega)
            exact hi.top c R rfl _ hm⟩)
          refine ⟨r, hG, Ev.suc ?_⟩
          simp only [impl_distancesTo.l1, hx, hw, hq]
          exact Ev.ite_pos h1 (Ev.ite_pos (by omega) (Ev.ite_pos h1 (Ev.ite_pos (by omega) (Ev.ite_pos hql (Ev.ite_pos q1 (Ev.ite_pos q2 (Ev.ite_pos hxr.1.1 (Ev.ite_pos (by omega) (Ev.ite_neg q3 ih)))))))))
      · obtain ⟨r, hG, ih⟩ := hskip (fun _ h => absurd h q2)
        refine ⟨r, hG, Ev.suc ?_⟩
        simp only [impl_distancesTo.l1, hx, hw, hq]
        exact Ev.ite_pos h1 (Ev.ite_pos (by omega) (Ev.ite_pos h1 (Ev.ite_pos (by omega) (Ev.ite_pos hql (Ev.ite_pos q1 (Ev.ite_neg q2 ih))))))
    · obtain ⟨r, hG, ih⟩ := hskip (fun h => absurd h q1)
      refine ⟨r, hG, Ev.suc ?_⟩
      simp only [impl_distancesTo.l1, hx, hw, hq]
      exact Ev.ite_pos h1 (Ev.ite_pos (by omega) (Ev.ite_pos h1 (Ev.ite_pos (by omega) (Ev.ite_pos hql (Ev.ite_neg q1 ih)))))
theorem dist_l0 (l : List S44) (hl : l.length ≤ 1048576) (hd : ∀ x ∈ l, dIn x) (goal least : Int) (hg : 0 ≤ goal ∧ goal ≤ 127) (d : Nat) : ∀ (O P T : List Int), P.length + d = 128 → QI (adjF (adjL l) least) goal O P T →
    ∃ O', (O'.length = 128 ∧ ∀ v, 0 ≤ v → v ≤ 127 → DT (adjF (adjL l) least) goal v (rd O' v) ∧ rd O' v ≤ 127) ∧ Ev (fun k => impl_distancesTo.l0 k l least O (P ++ T) (P.length : Int)) O' := by
  have hE : ∀ x y, adjF (adjL l) least x y → 0 ≤ x ∧ x ≤ 127 := fun x y h => (adjL_in hd h.1).1
  induction d with
  | zero =>
    intro O P T hd0 hi
    have hc := hi.cnt
    rw [List.length_append] at hc
    have e : T = [] := List.eq_nil_of_length_eq_zero (by omega)
    subst e
    refine ⟨O, ⟨hi.len, hi.dt hE hg⟩, Ev.suc ?_⟩
    simp only [impl_distancesTo.l0]
    exact Ev.ite_neg (by simp) (Ev.now _)
  | succ d ih =>
    intro O P T hd0 hi
    cases T with
    | nil =>
      refine ⟨O, ⟨hi.len, hi.dt hE hg⟩, Ev.suc ?_⟩
      simp only [impl_distancesTo.l0]
      exact Ev.ite_neg (by simp) (Ev.now _)
    | cons c R =>
      have hw : wrap64 ((P.length : Int) + 1) = ((P ++ [c]).length : Int) := by rw [w64 (by omega) (by omega), len_snoc]
      have hql : (P.length : Int) < ((P ++ c :: R).length : Int) := by simp only [List.length_append, List.length_cons]; omega
      obtain ⟨r, hG, hr⟩ := dist_l1 l hl hd goal least hg c P (fun O' => O'.length = 128 ∧ ∀ v, 0 ≤ v → v ≤ 127 → DT (adjF (adjL l) least) goal v (rd O' v) ∧ rd O' v ≤ 127) l [] O R rfl hi (fun x hx => by cases hx) (fun O' R' hi' hp' => by
        rw [hw, show P ++ c :: R' = (P ++ [c]) ++ R' by simp]
        exact ih O' (P ++ [c]) R' (by rw [List.length_append, List.length_singleton]; omega) (hi'.next (fun u hu => by
          obtain ⟨⟨x, hx, rfl, hx1⟩, hx2⟩ := hu
          exact hp' x hx hx1 hx2)))
      refine ⟨r, hG, Ev.suc ?_⟩
      simp only [impl_distancesTo.l0]
      exact Ev.ite_pos hql hr
theorem dist_i (l : List S44) (hl : l.length ≤ 1048576) (hd : ∀ x ∈ l, dIn x) (goal least : Int) (hg : 0 ≤ goal ∧ goal ≤ 127) :
    ∃ O, (O.length = 128 ∧ ∀ v, 0 ≤ v → v ≤ 127 → DT (adjF (adjL l) least) goal v (rd O v) ∧ rd O v ≤ 127) ∧ Ev (fun k => impl_distancesTo.f k l goal least) O := by
  have hz : ∀ v, 0 ≤ v → v ≤ 127 → rd (List.replicate 128 (-1 : Int)) v = -1 := fun v h0 h1 => by
    rw [rd_eq, List.getD_eq_getElem?_getD, List.getElem?_replicate, if_pos (by omega)]
    rfl
  have hlr : ((List.replicate 128 (-1 : Int)).length : Int) = 128 := by simp
  have hG : ∀ u, 0 ≤ u → rd ((List.replicate 128 (-1 : Int)).set goal.toNat 0) u = if u = goal then 0 else rd (List.replicate 128 (-1 : Int)) u := fun u hu => rd_setI _ goal _ u hg.1 (by omega) hu
  have hi : QI (adjF (adjL l) least) goal ((List.replicate 128 (-1 : Int)).set goal.toNat 0) [] [goal] := by
    refine ⟨by simp, fun v v0 v1 => ?_, fun v v0 v1 => ?_, fun v hv => ?_, by simp, fun c R e v hv => ?_, fun v hv => (by cases hv), ?_, ?_⟩
    · rw [hG v v0]
      by_cases e : v = goal
      · rw [if_pos e]
        exact ⟨by omega, by simp, fun _ => e⟩
      · rw [if_neg e, hz v v0 v1]
        exact ⟨by omega, by simp, fun h => by omega⟩
    · rw [hG v v0]
      by_cases e : v = goal
      · simp [e]
      · rw [if_neg e, hz v v0 v1]
        simp [e]
    · rw [List.nil_append, List.mem_singleton] at hv
      rw [hv]
      exact hg
    · injection e with e1 e2
      rw [List.nil_append, List.mem_singleton] at hv
      rw [← e1, hv]
      omega
    · rw [hG goal hg.1, if_pos rfl]
    · have := count_setI (List.replicate 128 (-1 : Int)) goal 0 (-1) hg.1 (by omega) (hz goal hg.1 hg.2) (by omega)
      rw [List.count_replicate_self] at this
      simp only [List.nil_append, List.length_singleton]
      omega
  obtain ⟨O, hO, hr⟩ := dist_l0 l hl hd goal least hg 128 _ [] [goal] (by simp) hi
  refine ⟨O, hO, ?_⟩
  unfold impl_distancesTo.f slices_Repeat_int_int.f
  rw [if_pos ⟨rfl, rfl⟩]
  simp only [Option.bind_some]
  exact Ev.ite_pos hg.1 (Ev.ite_pos (by omega) hr)

/-! ### inside -/
theorem inside_f (a b c : Int) : impl_inside.f a b c = some (decide (b ≤ a ∧ a ≤ c)) := by
  unfold impl_inside.f
  by_cases h : b ≤ a
  · rw [if_pos h]
    simp [h]
  · rw [if_neg h]
    simp [h]

/-! ### dependsOk_i -/
theorem compare_f (a b c d : Int) (ha : 0 ≤ a ∧ a ≤ 127) (hb : 0 ≤ b ∧ b ≤ 127) (hc : 0 ≤ c ∧ c ≤ 127) (hd : 0 ≤ d ∧ d ≤ 127) : ∃ r, impl_compareDepends.f a b c d = some r ∧ (r ≥ 0 ↔ ¬ (a < c ∨ (a = c ∧ b < d))) := by
  unfold impl_compareDepends.f
  by_cases h2 : a = c
  · refine ⟨b - d, ?_, by omega⟩
    rw [if_pos h2, w64 (by omega) (by omega)]
  · refine ⟨a - c, ?_, by omega⟩
    rw [if_neg h2, w64 (by omega) (by omega)]
theorem DependsOk_i_go : ∀ (rest p : List S44) (y : S44), dIn y → (p ++ [y]).length + rest.length < 1152921504606846976 →
    Ev (fun k => impl_DependsOk.l0 k (p ++ [y] ++ rest) (p ++ [y] ++ rest) ((p ++ [y] ++ rest).length : Int) ((p ++ [y]).length : Int)) (dGo y rest)
  | [], p, y, _, _ => by
    refine Ev.suc ?_
    simp only [impl_DependsOk.l0]
    exact Ev.ite_neg (by simp) (Ev.val rfl)
  | x :: rest, p, y, hyI, hl => by
    simp only [List.length_cons] at hl
    obtain ⟨hp, hy⟩ := prev_rd p y x rest (by omega)
    have hx := rdI_Depend (p ++ [y]) x rest
    have h1 : ((p ++ [y]).length : Int) < ((p ++ [y] ++ x :: rest).length : Int) := by simp only [List.length_append, List.length_cons]; omega
    have h2 : (p.length : Int) < ((p ++ [y] ++ x :: rest).length : Int) := by simp only [List.length_append, List.length_cons]; omega
    have h3 : ((p ++ [y]).length : Int) > 0 := by simp only [List.length_append, List.length_cons]; omega
    have hw : wrap64 (((p ++ [y]).length : Int) + 1) = ((p ++ [y] ++ [x]).length : Int) := by
      have e : ((p ++ [y] ++ [x]).length : Int) = ((p ++ [y]).length : Int) + 1 := len_snoc (p ++ [y]) x
      rw [e]
      exact w64 (by omega) (by omega)
    refine Ev.suc ?_
    simp only [impl_DependsOk.l0, hp, hy, hx, hw, inside_f, Option.bind_some, decide_eq_true_eq]
    rw [dGo_cons]
    refine Ev.ite_pos h1 (Ev.ite_pos (by omega) (Ev.ite_pos h1 (Ev.ite (fun c1 => Ev.ite (fun c2 => Ev.ite_pos h3 (Ev.ite_pos (by omega) (Ev.ite_pos h2 ?_))) (fun c2 => Ev.val ?_)) (fun c1 => Ev.val ?_))))
    · obtain ⟨r, e, hr⟩ := compare_f y.f0 y.f1 x.f0 x.f1 hyI.1 hyI.2 c1 c2
      have ih := DependsOk_i_go rest (p ++ [y]) x ⟨c1, c2⟩ (by simp only [List.length_append, List.length_cons, List.length_nil] at hl ⊢; omega)
      rw [← snoc_app (p ++ [y]) x rest] at ih
      simp only [e, Option.bind_some]
      refine Ev.ite (fun c3 => Ev.val ?_) (fun c3 => Ev.eq ih ?_)
      · rw [decide_eq_false (show ¬ dLt y x from hr.1 c3), Bool.false_and, Bool.and_false]
      · rw [decide_eq_true (show dIn x from ⟨c1, c2⟩), decide_eq_true (show dLt y x from Decidable.not_not.1 (fun z => c3 (hr.2 z))), Bool.true_and, Bool.true_and]
    · rw [decide_eq_false (show ¬ dIn x from fun z => c2 z.2), Bool.false_and]
    · rw [decide_eq_false (show ¬ dIn x from fun z => c1 z.1), Bool.false_and]
theorem DependsOk_i (l : List S44) (hl : l.length ≤ 1048576) : Ev (fun k => impl_DependsOk.f k l) (dAll l) := by
  unfold impl_DependsOk.f
  cases l with
  | nil =>
    refine Ev.suc ?_
    simp only [impl_DependsOk.l0]
    exact Ev.ite_neg (by simp) (Ev.val rfl)
  | cons x r =>
    have hx : rd_T44 (x :: r) 0 = x := rfl
    have hw : wrap64 ((0 : Int) + 1) = (([] ++ [x] : List S44).length : Int) := w64 (by omega) (by omega)
    have h1 : (0 : Int) < ((x :: r).length : Int) := by simp only [List.length_cons]; omega
    refine Ev.suc ?_
    simp only [impl_DependsOk.l0, hx, hw, inside_f, Option.bind_some, decide_eq_true_eq]
    rw [dAll_cons]
    refine Ev.ite_pos h1 (Ev.ite_pos (by omega) (Ev.ite_pos h1 (Ev.ite (fun c1 => Ev.ite (fun c2 => Ev.ite_neg (by omega) (Ev.eq (DependsOk_i_go r [] x ⟨c1, c2⟩ (by simp at hl ⊢; omega)) ?_)) (fun c2 => Ev.val ?_)) (fun c1 => Ev.val ?_))))
    · rw [decide_eq_true (show dIn x from ⟨c1, c2⟩), Bool.true_and]
    · rw [decide_eq_false (show ¬ dIn x from fun z => c2 z.2), Bool.false_and]
    · rw [decide_eq_false (show ¬ dIn x from fun z => c1 z.1), Bool.false_and]

/-! ### steps_i -/
/-- The least number over some channels, one more; -1 for none. -/
def Best (O : List Int) (S : List Int) (b : Int) : Prop := (b = -1 ∧ ∀ u ∈ S, rd O u < 0) ∨ (1 ≤ b ∧ (∃ u, u ∈ S ∧ 0 ≤ rd O u ∧ b = rd O u + 1) ∧ ∀ u ∈ S, 0 ≤ rd O u → b ≤ rd O u + 1)
theorem Best.skip {O S : List Int} {b u : Int} (h : Best O S b) (hu : rd O u < 0 ∨ (1 ≤ b ∧ b ≤ rd O u + 1)) : Best O (S ++ [u]) b := by
  rcases h with ⟨rfl, h⟩ | ⟨h0, ⟨x, hx, h1, h2⟩, h3⟩
  · refine Or.inl ⟨rfl, fun v hv => ?_⟩
    rcases List.mem_append.1 hv with hv | hv
    · exact h v hv
    · rw [List.mem_singleton.1 hv]
      rcases hu with hu | hu
      · exact hu
      · omega
  · refine Or.inr ⟨h0, ⟨x, List.mem_append.2 (Or.inl hx), h1, h2⟩, fun v hv hv0 => ?_⟩
    rcases List.mem_append.1 hv with hv | hv
    · exact h3 v hv hv0
    · rw [List.mem_singleton.1 hv] at hv0 ⊢
      rcases hu with hu | hu
      · omega
      · exact hu.2
theorem Best.take {O S : List Int} {b u : Int} (h : Best O S b) (hu : 0 ≤ rd O u) (hb : b < 0 ∨ rd O u + 1 < b) : Best O (S ++ [u]) (rd O u + 1) := by
  refine Or.inr ⟨by omega, ⟨u, List.mem_append.2 (Or.inr (List.mem_singleton.2 rfl)), hu, rfl⟩, fun v hv hv0 => ?_⟩
  rcases List.mem_append.1 hv with hv | hv
  · rcases h with ⟨_, h⟩ | ⟨h0, _, h3⟩
    · have := h v hv
      omega
    · have := h3 v hv hv0
      omega
  · rw [List.mem_singleton.1 hv]
    omega
theorem steps_l0 (O : List Int) (hO : O.length = 128) (hv : ∀ v, 0 ≤ v → v ≤ 127 → rd O v ≤ 127) : ∀ (rest pre : List Int) (b : Int), pre.length + rest.length ≤ 1048576 → (∀ u ∈ rest, 0 ≤ u ∧ u ≤ 127) → Best O pre b →
    ∃ b', Best O (pre ++ rest) b' ∧ Ev (fun k => impl_StepsBetween.l0 k O b (pre ++ rest) ((pre ++ rest).length : Int) (pre.length : Int)) b'
  | [], pre, b, _, _, hb => by
    refine ⟨b, by simpa using hb, Ev.suc ?_⟩
    simp only [impl_StepsBetween.l0]
    exact Ev.ite_neg (by simp) (Ev.now _)
  | u :: rest, pre, b, hl, hr, hb => by
    simp only [List.length_cons] at hl
    have hu := hr u List.mem_cons_self
    have hv' := hv u hu.1 hu.2
    have h1 : (pre.length : Int) < ((pre ++ u :: rest).length : Int) := by simp only [List.length_append, List.length_cons]; omega
    have hw : wrap64 ((pre.length : Int) + 1) = ((pre ++ [u]).length : Int) := by rw [w64 (by omega) (by omega), len_snoc]
    have hx : rd (pre ++ u :: rest) (pre.length : Int) = u := rd_mid pre u rest
    have go := fun b' hb' => steps_l0 O hO hv rest (pre ++ [u]) b' (by simp only [List.length_append, List.length_cons, List.length_nil]; omega) (fun y hy => hr y (List.mem_cons_of_mem _ hy)) hb'
    rw [← snoc_app pre u rest] at go
    have hb0 : b = -1 ∨ 1 ≤ b := by
      rcases hb with ⟨h, _⟩ | ⟨h, _⟩
      · exact Or.inl h
      · exact Or.inr h
    by_cases q1 : rd O u ≥ 0
    · have hw2 : wrap64 (rd O u + 1) = rd O u + 1 := w64 (by omega) (by omega)
      by_cases q2 : b < 0
      · obtain ⟨r, g, ih⟩ := go _ (hb.take q1 (Or.inl q2))
        refine ⟨r, g, Ev.suc ?_⟩
        simp only [impl_StepsBetween.l0, hx, hw, hw2]
        exact Ev.ite_pos h1 (Ev.ite_pos (by omega) (Ev.ite_pos h1 (Ev.ite_pos hu.1 (Ev.ite_pos (by omega) (Ev.ite_pos q1 (Ev.ite_pos q2 ih))))))
      · by_cases q3 : rd O u + 1 < b
        · obtain ⟨r, g, ih⟩ := go _ (hb.take q1 (Or.inr q3))
          refine ⟨r, g, Ev.suc ?_⟩
          simp only [impl_StepsBetween.l0, hx, hw, hw2]
          exact Ev.ite_pos h1 (Ev.ite_pos (by omega) (Ev.ite_pos h1 (Ev.ite_pos hu.1 (Ev.ite_pos (by omega) (Ev.ite_pos q1 (Ev.ite_neg q2 (Ev.ite_pos q3 ih)))))))
        · obtain ⟨r, g, ih⟩ := go _ (hb.skip (Or.inr ⟨by omega, by omega⟩))
          refine ⟨r, g, Ev.suc ?_⟩
          simp only [impl_StepsBetween.l0, hx, hw, hw2]
          exact Ev.ite_pos h1 (Ev.ite_pos (by omega) (Ev.ite_pos h1 (Ev.ite_pos hu.1 (Ev.ite_pos (by omega) (Ev.ite_pos q1 (Ev.ite_neg q2 (Ev.ite_neg q3 ih)))))))
    · obtain ⟨r, g, ih⟩ := go _ (hb.skip (Or.inl (by omega)))
      refine ⟨r, g, Ev.suc ?_⟩
      simp only [impl_StepsBetween.l0, hx, hw]
      exact Ev.ite_pos h1 (Ev.ite_pos (by omega) (Ev.ite_pos h1 (Ev.ite_pos hu.1 (Ev.ite_pos (by omega) (Ev.ite_neg q1 ih)))))
theorem adjF_all {l : List S44} (hd : ∀ x ∈ l, dIn x) {n : Nat} {a b : Int} (h : Wk (adjL l) n a b) : Wk (adjF (adjL l) 0) n a b := Wk.mono (fun x y h => ⟨h, (adjL_in hd h).1.1⟩) h
theorem steps_sb {l : List S44} (hd : ∀ x ∈ l, dIn x) {a c b : Int} {O : List Int} (hO : ∀ v, 0 ≤ v → v ≤ 127 → DT (adjF (adjL l) 0) c v (rd O v) ∧ rd O v ≤ 127) (h : Best O (su l a) b) : SB (adjL l) a c b := by
  rcases h with ⟨rfl, h⟩ | ⟨h0, ⟨u, hu, hu0, rfl⟩, h⟩
  · refine Or.inl ⟨rfl, fun n hn hw => ?_⟩
    obtain ⟨m, rfl⟩ : ∃ m, n = m + 1 := ⟨n - 1, by omega⟩
    obtain ⟨x, hx, hw⟩ := hw
    have hr := (adjL_in hd hx).2
    have := (hO x hr.1 hr.2).1.le (adjF_all hd hw)
    have := h x ((su_mem l a x).2 hx)
    omega
  · have hx := (su_mem l a u).1 hu
    have hr := (adjL_in hd hx).2
    refine Or.inr ⟨(rd O u).toNat + 1, by omega, by omega, Wk.cons hx (adjF.lift ((hO u hr.1 hr.2).1.walk hu0)), fun j hj hjl hw => ?_⟩
    obtain ⟨m, rfl⟩ : ∃ m, j = m + 1 := ⟨j - 1, by omega⟩
    obtain ⟨x, hx', hw⟩ := hw
    have hr' := (adjL_in hd hx').2
    have h1 := (hO x hr'.1 hr'.2).1.le (adjF_all hd hw)
    have := h x ((su_mem l a x).2 hx') h1.1
    omega
/-- StepsBetween of the program. -/
theorem StepsBetween_i (l : List S44) (hl : l.length ≤ 1048576) (a c : Int) : ∃ b, Ev (fun k => impl_StepsBetween.f k l a c) b ∧ b ≤ 128 ∧ (if dAll l = true ∧ (0 ≤ a ∧ a ≤ 127) ∧ (0 ≤ c ∧ c ≤ 127) then SB (adjL l) a c b else b = -1) := by
  have hok := DependsOk_i l hl
  by_cases h : dAll l = true ∧ (0 ≤ a ∧ a ≤ 127) ∧ (0 ≤ c ∧ c ≤ 127)
  · obtain ⟨h1, h2, h3⟩ := h
    have hd := dAll_in l h1
    obtain ⟨O, ⟨hO1, hO2⟩, hO⟩ := dist_i l hl hd c 0 h3
    have hsu := succ_i l a hl
    obtain ⟨b, hb, hr⟩ := steps_l0 O hO1 (fun v v0 v1 => (hO2 v v0 v1).2) (su l a) [] (-1) (by have := su_len l a; simp; omega) (fun u hu => (adjL_in hd ((su_mem l a u).1 hu)).2) (Or.inl ⟨rfl, fun u hu => by cases hu⟩)
    refine ⟨b, ?_, ?_, ?_⟩
    · unfold impl_StepsBetween.f
      rw [h1] at hok
      refine Ev.bind hok (Ev.ite_pos rfl ?_)
      simp only [inside_f, Option.bind_some]
      refine Ev.ite_pos (decide_eq_true h2) (Ev.suc ?_)
      rw [decide_eq_true h3]
      simp only [impl_StepsBetween.j0]
      exact Ev.ite_neg (by simp) (Ev.bind hO (Ev.bind hsu hr))
    · rcases hb with ⟨rfl, _⟩ | ⟨_, ⟨u, hu, _, rfl⟩, _⟩
      · omega
      · have hr := (adjL_in hd ((su_mem l a u).1 hu)).2
        have := (hO2 u hr.1 hr.2).2
        omega
    · rw [if_pos ⟨h1, h2, h3⟩]
      exact steps_sb hd hO2 hb
  · refine ⟨-1, ?_, by omega, by rw [if_neg h]⟩
    unfold impl_StepsBetween.f
    have hj : Ev (fun k => impl_StepsBetween.j0 k l a c true) (-1) := Ev.suc (by
      simp only [impl_StepsBetween.j0]
      exact Ev.ite_pos trivial (Ev.now _))
    refine Ev.bind hok (Ev.ite (fun h1 => ?_) (fun _ => hj))
    simp only [inside_f, Option.bind_some]
    refine Ev.ite (fun h2 => ?_) (fun _ => hj)
    rw [decide_eq_false (fun h3 => h ⟨h1, of_decide_eq_true h2, h3⟩)]
    exact hj

theorem FnReach : FnReach_says := by
  intro b hl
  refine Ev.rounds ?_
  unfold laws_FnReach.f
  simp only [big_f, Option.bind_some]
  refine Ev.ite (fun _ => Ev.now _) (fun hbig => ?_)
  simp only [decide_eq_true_eq] at hbig
  obtain ⟨l, e1, ha, hn, hr⟩ := DrawDepends_f b (by omega)
  obtain ⟨ps, e2, hp, hpr⟩ := DrawPlaces_f b (by omega)
  have m6 : ∀ i, 0 ≤ i → i < 12 → 0 ≤ Int.tmod (rd ps i) 6 ∧ Int.tmod (rd ps i) 6 < 6 := fun i h0 h1 => by
    rw [Int.tmod_eq_emod_of_nonneg (hpr i h0 h1).1]
    exact ⟨Int.emod_nonneg _ (by omega), Int.emod_lt_of_pos _ (by omega)⟩
  have m0 := m6 0 (by omega) (by omega)
  have m1 := m6 1 (by omega) (by omega)
  have m2 := m6 2 (by omega) (by omega)
  refine Ev.bind e1 (Ev.bind e2 ?_)
  clear hpr m6
  generalize Int.tmod (rd ps 0) 6 = x at *
  generalize Int.tmod (rd ps 1) 6 = y at *
  generalize Int.tmod (rd ps 2) 6 = z at *
  obtain ⟨a, ea, a1, a2⟩ := StepsBetween_i l (by omega) x y
  obtain ⟨c, ec, c1, c2⟩ := StepsBetween_i l (by omega) y z
  obtain ⟨d, ed, d1, d2⟩ := StepsBetween_i l (by omega) x z
  rw [if_pos ⟨ha, by omega, by omega⟩] at a2 c2 d2
  have h12 : (12 : Int) = (ps.length : Int) := by omega
  refine Ev.ite_pos (by omega) (Ev.ite_pos (by omega) (Ev.bind ea (Ev.ite_pos (by omega) (Ev.bind ec (Ev.bind ed ?_)))))
  rcases a2 with ⟨rfl, _⟩ | ⟨m, rfl, am⟩
  · exact Ev.ite_neg (by omega) (Ev.ite_pos (by omega) (Ev.now _))
  · have am0 := am.1
    refine Ev.ite_neg (by omega) (Ev.ite_neg (by omega) ?_)
    rcases c2 with ⟨rfl, _⟩ | ⟨n, rfl, cn⟩
    · exact Ev.ite_pos (by omega) (Ev.now _)
    · refine Ev.ite_neg (by omega) ?_
      rw [w64 (by omega) (by omega)]
      have hw := Wk.append cn.2.1 am.2.1
      rcases d2 with ⟨rfl, dn⟩ | ⟨q, rfl, dq⟩
      · exact absurd hw (dn _ (by omega))
      · have dq0 := dq.1
        refine Ev.ite_pos (by omega) (Ev.val (decide_eq_true ?_))
        rcases Nat.lt_or_ge (m + n) q with h | h
        · exact absurd hw (dq.2.2 _ (by omega) h)
        · omega

end Go.Proofs.Ytagmogkdlimofaa.Pure
