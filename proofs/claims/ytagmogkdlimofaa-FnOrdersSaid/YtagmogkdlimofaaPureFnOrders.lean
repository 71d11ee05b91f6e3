/- The plain statement of the law FnOrders: an order that is found is one, and gives the least channel without predecessors the rank 0. No condition. -/
import Derived.Test.YtagmogkdlimofaaPFnOrdersx
import Derived.Test.YtagmogkdlimofaaU
import Derived.Test.YtagmogkdlimofaaSaysFnOrders
namespace Go.Proofs.Ytagmogkdlimofaa.Pure
open Go.RowKit Go.Proofs.Ytagmogkdlimofaa.PFnOrders Go.Proofs.YtagmogkdlimofaaW.PrintWords Go.Proofs.YtagmogkdlimofaaW.PrintLast Go.Proofs.YtagmogkdlimofaaW.PrintMore Go.Proofs.Ytagmogkdlimofaa.U
set_option linter.unusedVariables false
set_option linter.unusedSimpArgs false

/-! ### big -/
theorem big_f (b : List Int) : laws_big.f b = some (decide ((b.length : Int) > 1048576)) := rfl

/-! ### rdDepend -/
theorem rdI_Depend (pre : List S44) (x : S44) (rest : List S44) : rd_T44 (pre ++ x :: rest) (pre.length : Int) = x := getD_mid pre x rest _

/-! ### dependD -/
abbrev dIn (x : S44) : Prop := (0 ≤ x.f0 ∧ x.f0 ≤ 127) ∧ (0 ≤ x.f1 ∧ x.f1 ≤ 127)
abbrev dLt (a b : S44) : Prop := a.f0 < b.f0 ∨ (a.f0 = b.f0 ∧ a.f1 < b.f1)
def dGo : S44 → List S44 → Bool
  | _, [] => true
  | y, x :: r => decide (dIn x) && (decide (dLt y x) && dGo x r)
/-- The list of depends is valid. -/
def dAll : List S44 → Bool
  | [] => true
  | x :: r => decide (dIn x) && dGo x r
theorem dGo_cons (y x : S44) (r : List S44) : dGo y (x :: r) = (decide (dIn x) && (decide (dLt y x) && dGo x r)) := rfl
theorem dAll_cons (x : S44) (r : List S44) : dAll (x :: r) = (decide (dIn x) && dGo x r) := rfl
theorem prev_rd (p : List S44) (y x : S44) (rest : List S44) (hl : (p ++ [y]).length + rest.length < 1152921504606846976) : wrap64 (((p ++ [y]).length : Int) - 1) = (p.length : Int) ∧ rd_T44 (p ++ [y] ++ x :: rest) (p.length : Int) = y := by
  refine ⟨?_, ?_⟩
  · simp only [List.length_append, List.length_cons, List.length_nil] at hl ⊢
    rw [w64 (by omega) (by omega)]
    omega
  · rw [List.append_assoc]
    exact rdI_Depend p y (x :: rest)

/-! ### lessD -/
theorem less_f (a b c d : Int) : spec_l08Less.f a b c d = some (decide (a < c ∨ (a = c ∧ b < d))) := by
  unfold spec_l08Less.f
  by_cases h1 : a < c
  · rw [if_pos h1, decide_eq_true (Or.inl h1)]
  · rw [if_neg h1]
    by_cases h2 : a = c
    · rw [if_pos h2]
      congr 1
      rw [decide_eq_decide]
      omega
    · rw [if_neg h2, decide_eq_false (by omega)]

/-! ### putD -/
theorem dLt_trans {a b c : S44} (h : dLt a b) (k : dLt b c) : dLt a c := by
  unfold dLt at *
  omega
theorem dGo_iff : ∀ (r : List S44) (y : S44), dGo y r = true ↔ (∀ x ∈ r, dIn x) ∧ (y :: r).Pairwise dLt
  | [], y => by simp [dGo]
  | z :: r, y => by
    rw [dGo_cons, Bool.and_eq_true, Bool.and_eq_true, decide_eq_true_eq, decide_eq_true_eq, dGo_iff r z]
    constructor
    · rintro ⟨h1, h2, h3, h4⟩
      refine ⟨fun x hx => ?_, List.pairwise_cons.2 ⟨fun x hx => ?_, h4⟩⟩
      · rcases List.mem_cons.1 hx with rfl | hx
        · exact h1
        · exact h3 x hx
      · rcases List.mem_cons.1 hx with rfl | hx
        · exact h2
        · exact dLt_trans h2 ((List.pairwise_cons.1 h4).1 x hx)
    · rintro ⟨h1, h2⟩
      rw [List.pairwise_cons] at h2
      exact ⟨h1 z List.mem_cons_self, h2.1 z List.mem_cons_self, fun x hx => h1 x (List.mem_cons_of_mem _ hx), h2.2⟩
theorem dAll_iff : ∀ (l : List S44), dAll l = true ↔ (∀ x ∈ l, dIn x) ∧ l.Pairwise dLt
  | [] => by simp [dAll]
  | z :: r => by
    rw [dAll_cons, Bool.and_eq_true, decide_eq_true_eq, dGo_iff]
    constructor
    · rintro ⟨h1, h2, h3⟩
      refine ⟨fun x hx => ?_, h3⟩
      rcases List.mem_cons.1 hx with rfl | hx
      · exact h1
      · exact h2 x hx
    · rintro ⟨h1, h2⟩
      exact ⟨h1 z List.mem_cons_self, fun x hx => h1 x (List.mem_cons_of_mem _ hx), h2⟩
theorem rdD_at (l : List S44) (i : Nat) (h : i < l.length) : rd_T44 l (i : Int) = l[i] := by
  show l.getD (i : Int).toNat _ = _
  rw [Int.toNat_natCast, List.getD_eq_getElem?_getD, List.getElem?_eq_getElem h]
  rfl
/-- What 'l08Put' makes: the list with one element more, in its place. -/
def PutOf (l : List S44) (d : S44) (r : List S44) : Prop := dAll r = true ∧ (∀ x, x ∈ r ↔ x = d ∨ x ∈ l) ∧ r.length ≤ l.length + 1
theorem put_l0 (l : List S44) (hl : l.length ≤ 1048576) (ha : dAll l = true) (d : S44) (hd : dIn d) : ∀ (i : Nat), i ≤ l.length → (∀ x ∈ l.drop i, dLt d x) → ∃ r, PutOf l d r ∧ Ev (fun k => spec_l08Put.l0 k l (i : Int) d.f0 d.f1) r := by
  have hs := (dAll_iff l).1 ha
  have fin : ∀ i, i ≤ l.length → (∀ x ∈ l.drop i, dLt d x) → (∀ x ∈ l.take i, dLt x d) → PutOf l d ((([] ++ l.take i) ++ [d]) ++ l.drop i) := fun i hi h1 h2 => by
    have e : (([] ++ l.take i) ++ [d]) ++ l.drop i = l.take i ++ d :: l.drop i := by simp
    rw [e]
    refine ⟨(dAll_iff _).2 ⟨fun x hx => ?_, ?_⟩, fun x => ?_, ?_⟩
    · rcases List.mem_append.1 hx with hx | hx
      · exact hs.1 x (List.mem_of_mem_take hx)
      · rcases List.mem_cons.1 hx with rfl | hx
        · exact hd
        · exact hs.1 x (List.mem_of_mem_drop hx)
    · have h3 := hs.2
      rw [← List.take_append_drop i l, List.pairwise_append] at h3
      rw [List.pairwise_append, List.pairwise_cons]
      refine ⟨h3.1, ⟨h1, h3.2.1⟩, fun x hx y hy => ?_⟩
      rcases List.mem_cons.1 hy with rfl | hy
      · exact h2 x hx
      · exact h3.2.2 x hx y hy
    · rw [List.mem_append, List.mem_cons]
      constructor
      · rintro (hx | rfl | hx)
        · exact Or.inr (List.mem_of_mem_take hx)
        · exact Or.inl rfl
        · exact Or.inr (List.mem_of_mem_drop hx)
      · rintro (rfl | hx)
        · exact Or.inr (Or.inl rfl)
        · rw [← List.take_append_drop i l, List.mem_append] at hx
          rcases hx with hx | hx
          · exact Or.inl hx
          · exact Or.inr (Or.inr hx)
    · simp
      omega
  have hlt : ∀ i : Nat, (l.take i).length ≤ l.length := fun i => by rw [List.length_take]; omega
  have hdr : ∀ i : Nat, (l.drop i).length ≤ l.length := fun i => by rw [List.length_drop]; omega
  intro i
  induction i with
  | zero =>
    intro hi h1
    refine ⟨_, fin 0 hi h1 (fun x hx => by simp at hx), Ev.suc ?_⟩
    simp only [spec_l08Put.l0, Option.bind_some]
    have := hlt 0
    have := hdr 0
    refine Ev.ite_neg (by omega) (Ev.ite_pos (by omega) (Ev.ite_pos (by omega) ?_))
    refine Ev.ite_pos ?_ (Ev.ite_pos ?_ (Ev.ite_pos ?_ (Ev.now _)))
    · simp
    · simp
    · simp; omega
  | succ i ih =>
    intro hi h1
    have hi' : i < l.length := by omega
    have hw : wrap64 (((i + 1 : Nat) : Int) - 1) = (i : Int) := by rw [w64 (by omega) (by omega)]; omega
    have hx := rdD_at l i hi'
    have hdrop : l.drop i = l[i] :: l.drop (i + 1) := List.drop_eq_getElem_cons hi'
    have hmem : l[i] ∈ l := List.getElem_mem hi'
    by_cases q1 : dLt d l[i]
    · obtain ⟨r, hr, h⟩ := ih (by omega) (fun x hx => by
        rw [hdrop] at hx
        rcases List.mem_cons.1 hx with rfl | hx
        · exact q1
        · exact h1 x hx)
      refine ⟨r, hr, Ev.suc ?_⟩
      simp only [spec_l08Put.l0, hw, hx, less_f, Option.bind_some, decide_eq_true_eq]
      exact Ev.ite_pos (by omega) (Ev.ite_pos (by omega) (Ev.ite_pos (by omega) (Ev.ite_pos q1 h)))
    · by_cases q2 : l[i] = d
      · refine ⟨l, ⟨ha, fun x => ⟨fun h => Or.inr h, fun h => h.elim (fun e => e ▸ q2 ▸ hmem) id⟩, by omega⟩, Ev.suc ?_⟩
        simp only [spec_l08Put.l0, hw, hx, less_f, Option.bind_some, decide_eq_true_eq]
        refine Ev.ite_pos (by omega) (Ev.ite_pos (by omega) (Ev.ite_pos (by omega) (Ev.ite_neg q1 (Ev.ite_pos ?_ (Ev.now _)))))
        rw [q2]
        simp
      · have q3 : dLt l[i] d := by
          have : ¬ (l[i].f0 = d.f0 ∧ l[i].f1 = d.f1) := fun e => q2 (by
            have e1 : l[i] = ⟨l[i].f0, l[i].f1⟩ := rfl
            rw [e1, e.1, e.2])
          unfold dLt at *
          omega
        have h2 : ∀ x ∈ l.take (i + 1), dLt x d := fun x hx => by
          rw [← List.take_append_getElem hi', List.mem_append, List.mem_singleton] at hx
          rcases hx with hx | rfl
          · have h3 := hs.2
            rw [← List.take_append_drop i l, List.pairwise_append] at h3
            exact dLt_trans (h3.2.2 x hx l[i] (by rw [hdrop]; exact List.mem_cons_self)) q3
          · exact q3
        refine ⟨_, fin (i + 1) hi h1 h2, Ev.suc ?_⟩
        have := hlt (i + 1)
        have := hdr (i + 1)
        simp only [spec_l08Put.l0, hw, hx, less_f, Option.bind_some, decide_eq_true_eq]
        refine Ev.ite_pos (by omega) (Ev.ite_pos (by omega) (Ev.ite_pos (by omega) (Ev.ite_neg q1 (Ev.ite_neg ?_ (Ev.ite_pos (by omega) (Ev.ite_pos (by omega) ?_))))))
        · intro z
          rw [Bool.and_eq_true, beq_iff_eq, beq_iff_eq] at z
          exact q2 (by
            have e1 : l[i] = ⟨l[i].f0, l[i].f1⟩ := rfl
            rw [e1, z.1, z.2])
        · refine Ev.ite_pos ?_ (Ev.ite_pos ?_ (Ev.ite_pos ?_ (Ev.now _)))
          · simp; omega
          · simp; omega
          · simp; omega
theorem put_s (l : List S44) (hl : l.length ≤ 1048576) (ha : dAll l = true) (d : S44) (hd : dIn d) : ∃ r, PutOf l d r ∧ Ev (fun k => spec_l08Put.f k l d.f0 d.f1) r := by
  unfold spec_l08Put.f
  exact put_l0 l hl ha d hd l.length (Nat.le_refl _) (fun x hx => by rw [List.drop_length] at hx; cases hx)

/-! ### cur -/
def CurOk (b : List Int) (i : Int) : Prop := 0 ≤ i ∧ i ≤ (b.length : Int) ∧ b.length ≤ 140737488351232
theorem l01New_l0 (b : List Int) (hb : b.length ≤ 140737488351232) : ∀ (d : Nat) (i h : Int), 0 ≤ i → i ≤ (b.length : Int) → (b.length : Int) - i = d → ∃ h', Ev (fun k => spec_l01New.l0 k b h i) (b, 0, h')
  | 0, i, h, h0, h1, hd => ⟨h, by
    refine Ev.suc ?_
    simp only [spec_l01New.l0]
    exact Ev.ite_neg (by omega) (Ev.now _)⟩
  | d + 1, i, h, h0, h1, hd => by
    by_cases h4 : i < 4000
    · obtain ⟨h', hh⟩ := l01New_l0 b hb d (i + 1) (Go.bits .and .i64 (wrap64 ((wrap64 ((wrap64 (h * 131)) + (wrap64 (rd b i)))) + 7)) 1073741823) (by omega) (by omega) (by omega)
      refine ⟨h', ?_⟩
      refine Ev.suc ?_
      simp only [spec_l01New.l0]
      refine Ev.ite_pos (by omega) (Ev.ite_pos h4 (Ev.ite_pos h0 ?_))
      rw [w64 (x := i + 1) (by omega) (by omega)]
      exact hh
    · refine ⟨h, ?_⟩
      refine Ev.suc ?_
      simp only [spec_l01New.l0]
      exact Ev.ite_pos (by omega) (Ev.ite_neg h4 (Ev.now _))
theorem l01New_f (b : List Int) (hb : b.length ≤ 140737488351232) : ∃ h', Ev (fun k => spec_l01New.f k b) (b, 0, h') := l01New_l0 b hb b.length 0 _ (by omega) (by omega) (by omega)
theorem l01New_ok (b : List Int) (hb : b.length ≤ 140737488351232) : CurOk b 0 := ⟨by omega, by omega, hb⟩
theorem l01Byte_f (b : List Int) (i h : Int) (hc : CurOk b i) : ∃ r i' h', spec_l01Byte.f b i h = some (r, i', h') ∧ 0 ≤ r ∧ r ≤ 255 ∧ CurOk b i' := by
  obtain ⟨h0, h1, h2⟩ := hc
  unfold spec_l01Byte.f
  by_cases hl : i < (b.length : Int)
  · rw [if_pos hl, if_pos h0]
    refine ⟨_, _, _, rfl, (and255 _).1, (and255 _).2, ?_⟩
    rw [w64 (by omega) (by omega)]
    exact ⟨by omega, by omega, h2⟩
  · rw [if_neg hl]
    exact ⟨_, _, _, rfl, (and255 _).1, (and255 _).2, h0, h1, h2⟩
theorem l01Below_f (b : List Int) (i h n : Int) (hc : CurOk b i) : ∃ r i' h', spec_l01Below.f b i h n = some (r, i', h') ∧ 0 ≤ r ∧ (0 < n → r < n) ∧ (n ≤ 0 → r = 0) ∧ CurOk b i' := by
  unfold spec_l01Below.f
  by_cases hn : n ≤ 0
  · rw [if_pos hn]
    exact ⟨0, i, h, rfl, by omega, by omega, fun _ => rfl, hc⟩
  · rw [if_neg hn]
    have tm : ∀ x : Int, 0 ≤ x → 0 ≤ Int.tmod x n ∧ Int.tmod x n < n := fun x hx => by
      rw [Int.tmod_eq_emod_of_nonneg hx]
      exact ⟨Int.emod_nonneg _ (by omega), Int.emod_lt_of_pos _ (by omega)⟩
    by_cases h2 : n ≤ 256
    · obtain ⟨r, i', h', e, r0, r1, hc'⟩ := l01Byte_f b i h hc
      rw [if_pos h2, e]
      simp only [Option.bind_some]
      rw [if_neg (by omega)]
      exact ⟨_, _, _, rfl, (tm r r0).1, fun _ => (tm r r0).2, fun h => absurd h hn, hc'⟩
    · rw [if_neg h2]
      obtain ⟨x, i1, h1, e1, x0, x1, hc1⟩ := l01Byte_f b i h hc
      obtain ⟨y, i2, h2', e2, y0, y1, hc2⟩ := l01Byte_f b i1 h1 hc1
      obtain ⟨z, i3, h3, e3, z0, z1, hc3⟩ := l01Byte_f b i2 h2' hc2
      obtain ⟨w, i4, h4, e4, w0, w1, hc4⟩ := l01Byte_f b i3 h3 hc3
      simp only [e1, e2, e3, e4, Option.bind_some]
      rw [if_neg (by omega)]
      have hs : wrap64 ((wrap64 ((wrap64 ((wrap64 (x * 16777216)) + (wrap64 (y * 65536)))) + (wrap64 (z * 256)))) + w) = x * 16777216 + y * 65536 + z * 256 + w := by
        rw [w64 (x := x * 16777216) (by omega) (by omega), w64 (x := y * 65536) (by omega) (by omega), w64 (x := z * 256) (by omega) (by omega)]
        rw [w64 (x := x * 16777216 + y * 65536) (by omega) (by omega)]
        rw [w64 (x := x * 16777216 + y * 65536 + z * 256) (by omega) (by omega)]
        exact w64 (by omega) (by omega)
      rw [hs]
      exact ⟨_, _, _, rfl, (tm _ (by omega)).1, fun _ => (tm _ (by omega)).2, fun h => absurd h hn, hc4⟩

/-! ### drawDepends -/
theorem l08List_l0 (b : List Int) : ∀ (d : Nat) (l : List S44) (i p h : Int), CurOk b p → dAll l = true → (l.length : Int) ≤ i → 0 ≤ i → (∀ x ∈ l, (0 ≤ x.f0 ∧ x.f0 ≤ 5) ∧ (0 ≤ x.f1 ∧ x.f1 ≤ 5)) → i ≤ 9 → (9 : Int) - i = d →
    ∃ r p' h', Ev (fun k => spec_l08List.l0 k l i b p h) (r, p', h') ∧ dAll r = true ∧ r.length ≤ 9 ∧ (∀ x ∈ r, (0 ≤ x.f0 ∧ x.f0 ≤ 5) ∧ (0 ≤ x.f1 ∧ x.f1 ≤ 5)) ∧ CurOk b p'
  | 0, l, i, p, h, hc, ha, hl, h0, hx, h9, hd => by
    obtain ⟨r, p', h', e, r0, r1, _, hc'⟩ := l01Below_f b p h 9 hc
    refine ⟨l, p', h', Ev.suc ?_, ha, by omega, hx, hc'⟩
    have := r1 (by omega)
    simp only [spec_l08List.l0, e, Option.bind_some]
    exact Ev.ite_neg (by omega) (Ev.now _)
  | d + 1, l, i, p, h, hc, ha, hl, h0, hx, h9, hd => by
    obtain ⟨r, p', h', e, r0, r1, _, hc'⟩ := l01Below_f b p h 9 hc
    have := r1 (by omega)
    by_cases q : i < r
    · obtain ⟨x, p1, h1, e1, x0, x1, _, hc1⟩ := l01Below_f b p' h' 6 hc'
      obtain ⟨y, p2, h2, e2, y0, y1, _, hc2⟩ := l01Below_f b p1 h1 6 hc1
      have := x1 (by omega)
      have := y1 (by omega)
      obtain ⟨l', ⟨a1, a2, a3⟩, a4⟩ := put_s l (by omega) ha ⟨x, y⟩ ⟨⟨x0, by show x ≤ 127; omega⟩, ⟨y0, by show y ≤ 127; omega⟩⟩
      obtain ⟨r2, p3, h3, e3, g⟩ := l08List_l0 b d l' (i + 1) p2 h2 hc2 a1 (by omega) (by omega) (fun z hz => by
        rcases (a2 z).1 hz with rfl | hz
        · exact ⟨⟨x0, by show x ≤ 5; omega⟩, ⟨y0, by show y ≤ 5; omega⟩⟩
        · exact hx z hz) (by omega) (by omega)
      refine ⟨r2, p3, h3, Ev.suc ?_, g⟩
      simp only [spec_l08List.l0, e, e1, e2, Option.bind_some]
      refine Ev.ite_pos q (Ev.bind a4 ?_)
      rw [w64 (by omega) (by omega)]
      exact e3
    · refine ⟨l, p', h', Ev.suc ?_, ha, by omega, hx, hc'⟩
      simp only [spec_l08List.l0, e, Option.bind_some]
      exact Ev.ite_neg q (Ev.now _)
/-- Drawn dependencies are valid, and their channels lie in 0..5. -/
theorem DrawDepends_f (b : List Int) (hb : b.length ≤ 140737488351232) : ∃ l, Ev (fun k => spec_DrawDepends.f k b) l ∧ dAll l = true ∧ l.length ≤ 9 ∧ ∀ x ∈ l, (0 ≤ x.f0 ∧ x.f0 ≤ 5) ∧ (0 ≤ x.f1 ∧ x.f1 ≤ 5) := by
  obtain ⟨h', hn⟩ := l01New_f b hb
  obtain ⟨r, p', h2, e, g1, g2, g3, _⟩ := l08List_l0 b 9 [] 0 0 h' (l01New_ok b hb) rfl (by simp) (by omega) (fun x hx => by cases hx) (by omega) (by omega)
  refine ⟨r, ?_, g1, g2, g3⟩
  unfold spec_DrawDepends.f spec_l08List.f
  exact Ev.bind hn (Ev.bind e (Ev.now _))

/-! ### walk -/
/-- A walk of n edges. -/
def Wk (adj : Int → Int → Prop) : Nat → Int → Int → Prop
  | 0, a, c => a = c
  | n + 1, a, c => ∃ b, adj a b ∧ Wk adj n b c
theorem Wk.snoc {adj : Int → Int → Prop} {b c : Int} (h : adj b c) : ∀ {n : Nat} {a : Int}, Wk adj n a b → Wk adj (n + 1) a c
  | 0, a, hw => ⟨c, (show a = b from hw) ▸ h, rfl⟩
  | n + 1, a, ⟨x, hx, hw⟩ => ⟨x, hx, Wk.snoc h hw⟩
theorem Wk.append {adj : Int → Int → Prop} {b c : Int} {m : Nat} (h : Wk adj m b c) : ∀ {n : Nat} {a : Int}, Wk adj n a b → Wk adj (n + m) a c
  | 0, a, hw => by
    have e : a = b := hw
    rw [e, Nat.zero_add]
    exact h
  | n + 1, a, ⟨x, hx, hw⟩ => by
    rw [Nat.add_right_comm]
    exact ⟨x, hx, Wk.append h hw⟩
theorem Wk.last {adj : Int → Int → Prop} {c : Int} : ∀ {n : Nat} {a : Int}, Wk adj (n + 1) a c → ∃ b, Wk adj n a b ∧ adj b c
  | 0, a, ⟨x, hx, hw⟩ => ⟨a, rfl, (show x = c from hw) ▸ hx⟩
  | n + 1, a, ⟨x, hx, hw⟩ => by
    obtain ⟨b, h1, h2⟩ := Wk.last hw
    exact ⟨b, ⟨x, hx, h1⟩, h2⟩
theorem Wk.split {adj : Int → Int → Prop} {c : Int} {m : Nat} : ∀ {n : Nat} {a : Int}, Wk adj (n + m) a c → ∃ b, Wk adj n a b ∧ Wk adj m b c
  | 0, a, h => by
    rw [Nat.zero_add] at h
    exact ⟨a, rfl, h⟩
  | n + 1, a, h => by
    rw [Nat.add_right_comm] at h
    obtain ⟨x, hx, hw⟩ := h
    obtain ⟨b, h1, h2⟩ := Wk.split hw
    exact ⟨b, ⟨x, hx, h1⟩, h2⟩
theorem Wk.mono {adj adj' : Int → Int → Prop} (h : ∀ a b, adj a b → adj' a b) {c : Int} : ∀ {n : Nat} {a : Int}, Wk adj n a c → Wk adj' n a c
  | 0, _, hw => hw
  | _ + 1, _, ⟨x, hx, hw⟩ => ⟨x, h _ _ hx, Wk.mono h hw⟩
/-- The least number of edges, at least one. -/
def PD (adj : Int → Int → Prop) (a b : Int) (m : Nat) : Prop := 0 < m ∧ Wk adj m a b ∧ ∀ j, 0 < j → j < m → ¬ Wk adj j a b
/-- What 'steps between' says: -1 for none. -/
def SB (adj : Int → Int → Prop) (a b v : Int) : Prop := (v = -1 ∧ ∀ n, 0 < n → ¬ Wk adj n a b) ∨ ∃ m : Nat, v = (m : Int) ∧ PD adj a b m
theorem PD.unique {adj : Int → Int → Prop} {a b : Int} {m n : Nat} (h : PD adj a b m) (k : PD adj a b n) : m = n := by
  obtain ⟨h1, h2, h3⟩ := h
  obtain ⟨k1, k2, k3⟩ := k
  rcases Nat.lt_trichotomy m n with h | h | h
  · exact absurd h2 (k3 m h1 h)
  · exact h
  · exact absurd k2 (h3 n k1 h)
theorem SB.unique {adj : Int → Int → Prop} {a b v u : Int} (h : SB adj a b v) (k : SB adj a b u) : v = u := by
  rcases h with ⟨rfl, h⟩ | ⟨m, rfl, h⟩
  · rcases k with ⟨rfl, _⟩ | ⟨n, rfl, k⟩
    · rfl
    · exact absurd k.2.1 (h n k.1)
  · rcases k with ⟨rfl, k⟩ | ⟨n, rfl, k⟩
    · exact absurd h.2.1 (k m h.1)
    · rw [h.unique k]
/-- A least one of what holds somewhere. -/
theorem least {P : Nat → Prop} (n : Nat) : P n → ∃ m, P m ∧ m ≤ n ∧ ∀ j, j < m → ¬ P j := by
  induction n using Nat.strongRecOn with
  | _ n ih =>
    intro h
    by_cases hs : ∃ j, j < n ∧ P j
    · obtain ⟨j, hj, hp⟩ := hs
      obtain ⟨m, hm, hmn, hl⟩ := ih j hj hp
      exact ⟨m, hm, by omega, hl⟩
    · exact ⟨n, h, Nat.le_refl _, fun j hj hp => hs ⟨j, hj, hp⟩⟩
theorem PD.of {adj : Int → Int → Prop} {a b : Int} {n : Nat} (h0 : 0 < n) (h : Wk adj n a b) : ∃ m, PD adj a b m ∧ m ≤ n := by
  obtain ⟨m, ⟨h1, h2⟩, hmn, hl⟩ := least (P := fun n => 0 < n ∧ Wk adj n a b) n ⟨h0, h⟩
  exact ⟨m, ⟨h1, h2, fun j hj hjm hw => hl j hjm ⟨hj, hw⟩⟩, hmn⟩

/-! ### succ -/
/-- The successors of a channel, in the order of the list. -/
def su (l : List S44) (a : Int) : List Int := (l.filter (fun x => decide (x.f0 = a))).map (fun x => x.f1)
abbrev adjL (l : List S44) (a b : Int) : Prop := ∃ x, x ∈ l ∧ x.f0 = a ∧ x.f1 = b
theorem su_mem (l : List S44) (a b : Int) : b ∈ su l a ↔ adjL l a b := by
  unfold su adjL
  rw [List.mem_map]
  constructor
  · rintro ⟨x, hx, rfl⟩
    rw [List.mem_filter, decide_eq_true_eq] at hx
    exact ⟨x, hx.1, hx.2, rfl⟩
  · rintro ⟨x, hx, rfl, rfl⟩
    exact ⟨x, List.mem_filter.2 ⟨hx, decide_eq_true rfl⟩, rfl⟩
theorem su_cons_pos (x : S44) (r : List S44) (a : Int) (h : x.f0 = a) : su (x :: r) a = x.f1 :: su r a := by
  unfold su
  rw [List.filter_cons, if_pos (decide_eq_true h), List.map_cons]
theorem su_cons_neg (x : S44) (r : List S44) (a : Int) (h : ¬ x.f0 = a) : su (x :: r) a = su r a := by
  unfold su
  rw [List.filter_cons, if_neg (by rw [decide_eq_true_eq]; exact h)]
theorem su_len (l : List S44) (a : Int) : (su l a).length ≤ l.length := by
  unfold su
  rw [List.length_map]
  exact List.length_filter_le _ _
theorem dGo_in : ∀ (r : List S44) (y : S44), dGo y r = true → ∀ x ∈ r, dIn x
  | [], _, _, x, hx => by cases hx
  | z :: r, y, h, x, hx => by
    rw [dGo_cons, Bool.and_eq_true, Bool.and_eq_true] at h
    rcases List.mem_cons.1 hx with rfl | hx
    · exact of_decide_eq_true h.1
    · exact dGo_in r z h.2.2 x hx
theorem dAll_in : ∀ (l : List S44), dAll l = true → ∀ x ∈ l, dIn x
  | [], _, x, hx => by cases hx
  | z :: r, h, x, hx => by
    rw [dAll_cons, Bool.and_eq_true] at h
    rcases List.mem_cons.1 hx with rfl | hx
    · exact of_decide_eq_true h.1
    · exact dGo_in r z h.2 x hx
theorem adjL_in {l : List S44} (hd : ∀ x ∈ l, dIn x) {a b : Int} (h : adjL l a b) : (0 ≤ a ∧ a ≤ 127) ∧ (0 ≤ b ∧ b ≤ 127) := by
  obtain ⟨x, hx, rfl, rfl⟩ := h
  exact hd x hx
theorem rd_eq (l : List Int) (i : Int) : rd l i = l.getD i.toNat 0 := rfl
theorem rd_setI (D : List Int) (v n u : Int) (h0 : 0 ≤ v) (h1 : v < (D.length : Int)) (hu : 0 ≤ u) : rd (D.set v.toNat n) u = if u = v then n else rd D u := by
  rw [rd_eq, rd_eq, List.getD_eq_getElem?_getD, List.getD_eq_getElem?_getD, List.getElem?_set]
  by_cases h : u = v
  · subst h
    rw [if_pos rfl, if_pos (by omega), if_pos rfl]
    rfl
  · rw [if_neg h, if_neg (by omega)]
theorem count_setI (D : List Int) (v n b : Int) (h0 : 0 ≤ v) (h1 : v < (D.length : Int)) (he : rd D v = b) (hn : n ≠ b) : (D.set v.toNat n).count b + 1 = D.count b := by
  have hl : v.toNat < D.length := by omega
  have e : D[v.toNat] = b := by
    rw [rd_eq, List.getD_eq_getElem?_getD, List.getElem?_eq_getElem hl] at he
    exact he
  have hp : 0 < D.count b := List.count_pos_iff.2 (e ▸ List.getElem_mem hl)
  rw [List.count_set hl, e, if_pos (by simp), if_neg (by simpa using hn)]
  omega

/-! ### cycleW -/
theorem Wk.cons {adj : Int → Int → Prop} {n : Nat} {a b c : Int} (h : adj a b) (w : Wk adj n b c) : Wk adj (n + 1) a c := ⟨b, h, w⟩
/-- How far a goal is: the least number of edges, -1 for none. -/
def DT (adj : Int → Int → Prop) (goal v x : Int) : Prop := (x = -1 ∧ ∀ n, ¬ Wk adj n v goal) ∨ ∃ m : Nat, x = (m : Int) ∧ Wk adj m v goal ∧ ∀ j, j < m → ¬ Wk adj j v goal
/-- How far a channel is: the least positive number of edges, 0 for none. -/
def D0 (adj : Int → Int → Prop) (a b x : Int) : Prop := (x = 0 ∧ ∀ n, 0 < n → ¬ Wk adj n a b) ∨ ∃ m : Nat, x = (m : Int) ∧ PD adj a b m
theorem D0.nonneg {adj : Int → Int → Prop} {a b x : Int} (h : D0 adj a b x) : 0 ≤ x := by
  rcases h with ⟨rfl, _⟩ | ⟨m, rfl, _⟩ <;> omega
theorem DT.ge {adj : Int → Int → Prop} {a b x : Int} (h : DT adj a b x) : -1 ≤ x := by
  rcases h with ⟨rfl, _⟩ | ⟨m, rfl, _⟩ <;> omega
theorem DT.walk {adj : Int → Int → Prop} {g v x : Int} (h : DT adj g v x) (h0 : 0 ≤ x) : Wk adj x.toNat v g := by
  rcases h with ⟨rfl, _⟩ | ⟨m, rfl, h, _⟩
  · omega
  · exact h
theorem DT.le {adj : Int → Int → Prop} {g v x : Int} (h : DT adj g v x) {n : Nat} (hw : Wk adj n v g) : 0 ≤ x ∧ x ≤ (n : Int) := by
  rcases h with ⟨_, h⟩ | ⟨m, rfl, _, h⟩
  · exact absurd hw (h n)
  · refine ⟨by omega, ?_⟩
    rcases Nat.lt_or_ge n m with hl | hl
    · exact absurd hw (h n hl)
    · omega
theorem D0.walk {adj : Int → Int → Prop} {a b x : Int} (h : D0 adj a b x) (h0 : 0 < x) : Wk adj x.toNat a b := by
  rcases h with ⟨rfl, _⟩ | ⟨m, rfl, h⟩
  · omega
  · exact h.2.1
theorem D0.le {adj : Int → Int → Prop} {a b x : Int} (h : D0 adj a b x) {n : Nat} (hn : 0 < n) (hw : Wk adj n a b) : 0 < x ∧ x ≤ (n : Int) := by
  rcases h with ⟨_, h⟩ | ⟨m, rfl, h⟩
  · exact absurd hw (h n hn)
  · refine ⟨by have := h.1; omega, ?_⟩
    rcases Nat.lt_or_ge n m with hl | hl
    · exact absurd hw (h.2.2 n hn hl)
    · omega
theorem DT.self {adj : Int → Int → Prop} {g x : Int} (h : DT adj g g x) : x = 0 := by
  have := h.le (n := 0) rfl
  omega
theorem DT.zero {adj : Int → Int → Prop} {g v : Int} (h : DT adj g v 0) : v = g := h.walk (by omega)
/-- The edges out of channels not below a least one. -/
def adjF (adj : Int → Int → Prop) (s : Int) (a b : Int) : Prop := adj a b ∧ s ≤ a
theorem adjF.lift {adj : Int → Int → Prop} {s : Int} {n : Nat} {a b : Int} (h : Wk (adjF adj s) n a b) : Wk adj n a b := Wk.mono (fun _ _ h => h.1) h
/-- A shortest closed walk: its length is g, its first channel the least that any such one has. -/
structure Girth (adj : Int → Int → Prop) (s : Int) (g : Nat) : Prop where
  pos : 0 < g
  wk : Wk adj g s s
  least : ∀ c n, 0 < n → Wk adj n c c → g ≤ n
  first : ∀ c n, c < s → 0 < n → Wk adj n c c → g < n
theorem Girth.on {adj : Int → Int → Prop} {s v : Int} {g p q : Nat} (h : Girth adj s g) (h1 : Wk adj p s v) (h2 : Wk adj q v s) (e : p + q = g) : s ≤ v := by
  rcases Int.lt_or_le v s with hl | hl
  · have := h.first v (q + p) hl (by have := h.pos; omega) (Wk.append h1 h2)
    omega
  · exact hl
theorem Girth.restrict {adj : Int → Int → Prop} {s : Int} {g : Nat} (h : Girth adj s g) : ∀ (q p : Nat) (v : Int), Wk adj p s v → Wk adj q v s → p + q = g → Wk (adjF adj s) q v s
  | 0, _, _, _, h2, _ => h2
  | q + 1, p, v, h1, ⟨b, hb, h2⟩, e => ⟨b, ⟨hb, h.on h1 (Wk.cons hb h2) e⟩, h.restrict q (p + 1) b (Wk.snoc hb h1) h2 (by omega)⟩
theorem Girth.ge {adj : Int → Int → Prop} {s a c x : Int} {g i n : Nat} (h : Girth adj s g) (e : i + n + 1 = g) (h1 : Wk adj i s a) (hc : adj a c) (hx : DT (adjF adj s) s c x) (h0 : 0 ≤ x) : (n : Int) ≤ x := by
  have hw := adjF.lift (hx.walk h0)
  have := h.least s (i + (x.toNat + 1)) (by omega) (Wk.append (Wk.cons hc hw) h1)
  omega
theorem Girth.same {adj : Int → Int → Prop} {s a c x y : Int} {g i n : Nat} (h : Girth adj s g) (e : i + n + 1 = g) (h1 : Wk adj i s a) (hc : adj a c) (hx : DT (adjF adj s) s c x) (hy : D0 adj c s y) :
    (s ≤ c ∧ x = (n : Int)) ↔ ((n = 0 ∧ c = s) ∨ (0 < n ∧ c ≠ s ∧ y = (n : Int))) := by
  constructor
  · rintro ⟨h2, rfl⟩
    rcases Nat.eq_zero_or_pos n with h0 | h0
    · subst h0
      exact Or.inl ⟨rfl, hx.zero⟩
    · have hw := adjF.lift (hx.walk (by omega))
      rw [Int.toNat_natCast] at hw
      obtain ⟨y0, y1⟩ := hy.le h0 hw
      have hw2 := hy.walk y0
      have := h.least s (i + (y.toNat + 1)) (by omega) (Wk.append (Wk.cons hc hw2) h1)
      refine Or.inr ⟨h0, fun hcs => ?_, by omega⟩
      subst hcs
      have := hx.self
      omega
  · rintro (⟨rfl, rfl⟩ | ⟨h0, hne, rfl⟩)
    · exact ⟨Int.le_refl _, by rw [hx.self]; rfl⟩
    · have hw := hy.walk (by omega)
      rw [Int.toNat_natCast] at hw
      have h3 := Wk.snoc hc h1
      have := hx.le (h.restrict n (i + 1) c h3 hw (by omega))
      have := h.ge e h1 hc hx (by omega)
      exact ⟨h.on h3 hw (by omega), by omega⟩
theorem Girth.near {adj : Int → Int → Prop} {s a : Int} {g i n : Nat} (h : Girth adj s g) (e : i + n + 1 = g) (h1 : Wk adj i s a) (h2 : Wk adj (n + 1) a s) :
    ∃ c, adj a c ∧ s ≤ c ∧ Wk adj n c s ∧ Wk adj (i + 1) s c ∧ ∀ x, DT (adjF adj s) s c x → x = (n : Int) := by
  obtain ⟨c, hc, hw⟩ := h2
  have h3 := Wk.snoc hc h1
  refine ⟨c, hc, h.on h3 hw (by omega), hw, h3, fun x hx => ?_⟩
  have := hx.le (h.restrict n (i + 1) c h3 hw (by omega))
  have := h.ge e h1 hc hx (by omega)
  omega
/-- The channels of a shortest cycle, each the first successor that is near enough. -/
def pathF (su : Int → List Int) (ok : Nat → Int → Bool) : Nat → Int → List Int
  | 0, _ => []
  | n + 1, a => a :: (match (su a).find? (ok n) with
    | some c => pathF su ok n c
    | none => [])
theorem pathF_succ (su : Int → List Int) (ok : Nat → Int → Bool) (n : Nat) (a : Int) : pathF su ok (n + 1) a = a :: (match (su a).find? (ok n) with
    | some c => pathF su ok n c
    | none => []) := rfl
theorem pathF_some {su : Int → List Int} {ok : Nat → Int → Bool} {n : Nat} {a c : Int} (h : (su a).find? (ok n) = some c) : pathF su ok (n + 1) a = a :: pathF su ok n c := by
  rw [pathF_succ, h]
theorem find_some {α : Type} {p : α → Bool} {l : List α} (h : ∃ x, x ∈ l ∧ p x = true) : ∃ x, l.find? p = some x ∧ x ∈ l ∧ p x = true := by
  cases e : l.find? p with
  | none =>
    obtain ⟨x, hx, hp⟩ := h
    exact absurd hp (List.find?_eq_none.1 e x hx)
  | some x => exact ⟨x, rfl, List.mem_of_find?_eq_some e, List.find?_some e⟩
theorem find_congr {α : Type} {p q : α → Bool} : ∀ {l : List α}, (∀ x ∈ l, p x = q x) → l.find? p = l.find? q
  | [], _ => rfl
  | x :: l, h => by
    rw [List.find?_cons, List.find?_cons, h x List.mem_cons_self, find_congr (fun y hy => h y (List.mem_cons_of_mem _ hy))]

/-! ### pigeon -/
theorem filter_ne_len (a : Int) : ∀ (l : List Int), l.Nodup → l.length ≤ (l.filter (fun x => decide (x ≠ a))).length + 1
  | [], _ => by simp
  | x :: l, h => by
    rw [List.nodup_cons] at h
    have ih := filter_ne_len a l h.2
    by_cases hx : x = a
    · subst hx
      have e : (l.filter (fun y => decide (y ≠ x))) = l := List.filter_eq_self.2 (fun y hy => decide_eq_true (fun z => h.1 (z ▸ hy)))
      rw [List.filter_cons_of_neg (by simp), e, List.length_cons]
      omega
    · have e : decide (x ≠ a) = true := decide_eq_true hx
      rw [List.filter_cons, if_pos e, List.length_cons, List.length_cons]
      omega
theorem nodup_len : ∀ (n : Nat) (l : List Int), l.Nodup → (∀ x ∈ l, 0 ≤ x ∧ x < (n : Int)) → l.length ≤ n
  | 0, l, _, h => by
    cases l with
    | nil => simp
    | cons x l => have := h x List.mem_cons_self; omega
  | n + 1, l, hd, h => by
    have h1 := filter_ne_len (n : Int) l hd
    have h2 := nodup_len n (l.filter (fun x => decide (x ≠ (n : Int)))) (List.Pairwise.filter _ hd) (fun x hx => by
      rw [List.mem_filter, decide_eq_true_eq] at hx
      have := h x hx.1
      omega)
    omega
/-- The channels along a walk backwards, newest first. -/
inductive Back (adj : Int → Int → Prop) : List Int → Prop
  | one (a : Int) : Back adj [a]
  | more {a b : Int} {l : List Int} (h : adj a b) (t : Back adj (b :: l)) : Back adj (a :: b :: l)
theorem Back.wk {adj : Int → Int → Prop} {l : List Int} (h : Back adj l) : ∀ {a : Int} {r : List Int}, l = a :: r → ∀ x ∈ r, ∃ n, 0 < n ∧ Wk adj n a x := by
  induction h with
  | one a =>
    intro b r e x hx
    cases e
    cases hx
  | more h t ih =>
    intro c r e x hx
    cases e
    rcases List.mem_cons.1 hx with rfl | hx
    · exact ⟨1, by omega, Wk.cons h rfl⟩
    · obtain ⟨n, hn, hw⟩ := ih rfl x hx
      exact ⟨n + 1, by omega, Wk.cons h hw⟩
theorem Back.nodup {adj : Int → Int → Prop} (hc : ∀ a n, 0 < n → ¬ Wk adj n a a) {l : List Int} (h : Back adj l) : l.Nodup := by
  induction h with
  | one a => exact List.nodup_cons.2 ⟨List.not_mem_nil, List.nodup_nil⟩
  | @more a b l h t ih =>
    refine List.nodup_cons.2 ⟨fun hm => ?_, ih⟩
    obtain ⟨n, hn, hw⟩ := (Back.more h t).wk rfl a hm
    exact hc a n hn hw
theorem back_long {adj : Int → Int → Prop} {U : Int → Prop} (hp : ∀ c, U c → ∃ b, adj b c ∧ U b) {c : Int} (h : U c) : ∀ n : Nat, ∃ a l, Back adj (a :: l) ∧ l.length = n ∧ U a ∧ ∀ x ∈ a :: l, U x
  | 0 => ⟨c, [], .one c, rfl, h, fun x hx => by rw [List.mem_singleton.1 hx]; exact h⟩
  | n + 1 => by
    obtain ⟨a, l, hb, hl, hu, ha⟩ := back_long hp h n
    obtain ⟨b, hab, hub⟩ := hp a hu
    exact ⟨b, a :: l, .more hab hb, by simp [hl], hub, fun x hx => (List.mem_cons.1 hx).elim (fun e => e ▸ hub) (ha x)⟩
/-- Where each channel of a set has a predecessor in it, there is a closed walk. -/
theorem closed_of_preds {adj : Int → Int → Prop} {U : Int → Prop} (hr : ∀ c, U c → 0 ≤ c ∧ c ≤ 127) (hp : ∀ c, U c → ∃ b, adj b c ∧ U b) {c : Int} (h : U c) : ∃ a n, 0 < n ∧ Wk adj n a a := by
  refine Classical.byContradiction fun hn => ?_
  have hc : ∀ a n, 0 < n → ¬ Wk adj n a a := fun a n h0 hw => hn ⟨a, n, h0, hw⟩
  obtain ⟨a, l, hb, hl, _, hu⟩ := back_long hp h 128
  have h1 := nodup_len 128 (a :: l) (hb.nodup hc) (fun x hx => by have := hr x (hu x hx); omega)
  rw [List.length_cons] at h1
  omega

/-! ### order -/
/-- A channel that is not ranked, and to which no element leads from one that is not ranked. -/
def freeC (l : List S44) (R : List Int) (c : Int) : Prop := rd R c < 0 ∧ ∀ x ∈ l, x.f1 = c → ¬ rd R x.f0 < 0
/-- The least such channel, -1 where there is none. -/
def Pick (l : List S44) (R : List Int) (b : Int) : Prop := (b = -1 ∧ ∀ c, 0 ≤ c → c ≤ 127 → ¬ freeC l R c) ∨ ((0 ≤ b ∧ b ≤ 127) ∧ freeC l R b ∧ ∀ c, 0 ≤ c → c < b → ¬ freeC l R c)
theorem Pick.unique {l : List S44} {R : List Int} {a b : Int} (h : Pick l R a) (k : Pick l R b) : a = b := by
  rcases h with ⟨rfl, h⟩ | ⟨h1, h2, h3⟩
  · rcases k with ⟨rfl, _⟩ | ⟨k1, k2, _⟩
    · rfl
    · exact absurd k2 (h b k1.1 k1.2)
  · rcases k with ⟨rfl, k⟩ | ⟨k1, k2, k3⟩
    · exact absurd h2 (k a h1.1 h1.2)
    · rcases Int.lt_trichotomy a b with e | e | e
      · exact absurd h2 (k3 a h1.1 e)
      · exact e
      · exact absurd k2 (h3 b k1.1 e)
theorem pick_ex (l : List S44) (R : List Int) : ∃ b, Pick l R b := by
  by_cases h : ∃ n : Nat, n ≤ 127 ∧ freeC l R (n : Int)
  · obtain ⟨n, hn⟩ := h
    obtain ⟨m, hm, hmn, hl⟩ := least (P := fun n => n ≤ 127 ∧ freeC l R (n : Int)) n hn
    refine ⟨(m : Int), Or.inr ⟨⟨by omega, by omega⟩, hm.2, fun c c0 c1 hc => hl c.toNat (by omega) ⟨by omega, by rw [show ((c.toNat : Nat) : Int) = c by omega]; exact hc⟩⟩⟩
  · exact ⟨-1, Or.inl ⟨rfl, fun c c0 c1 hc => h ⟨c.toNat, by omega, by rw [show ((c.toNat : Nat) : Int) = c by omega]; exact hc⟩⟩⟩
/-- The ranks, given one by one. -/
inductive Ord (l : List S44) : Nat → List Int → List Int × Bool → Prop
  | done (R : List Int) : Ord l 0 R (R, true)
  | fail {d : Nat} {R : List Int} (h : Pick l R (-1)) : Ord l (d + 1) R ([], false)
  | step {d : Nat} {R : List Int} {b : Int} {r : List Int × Bool} (h : Pick l R b) (h0 : 0 ≤ b) (t : Ord l d (R.set b.toNat (127 - (d : Int))) r) : Ord l (d + 1) R r
theorem Ord.unique {l : List S44} {d : Nat} {R : List Int} {r s : List Int × Bool} (h : Ord l d R r) : Ord l d R s → r = s := by
  induction h with
  | done R => intro k; cases k; rfl
  | fail h =>
    intro k
    cases k with
    | fail k => rfl
    | step k k0 t => have := h.unique k; omega
  | step h h0 t ih =>
    intro k
    cases k with
    | fail k => have := h.unique k; omega
    | step k k0 t' =>
      have e := h.unique k
      subst e
      exact ih t'
/-- What holds when r ranks are given. -/
structure RI (l : List S44) (r : Int) (R : List Int) : Prop where
  len : R.length = 128
  val : ∀ c, 0 ≤ c → c ≤ 127 → -1 ≤ rd R c ∧ rd R c < r
  rise : ∀ x ∈ l, 0 ≤ rd R x.f1 → 0 ≤ rd R x.f0 ∧ rd R x.f0 < rd R x.f1
  all : ∀ q, 0 ≤ q → q < r → ∃ c, (0 ≤ c ∧ c ≤ 127) ∧ rd R c = q
  cnt : (R.count (-1) : Int) + r = 128
theorem RI.put {l : List S44} {r b : Int} {R : List Int} (hd : ∀ x ∈ l, dIn x) (h : RI l r R) (hb : 0 ≤ b ∧ b ≤ 127) (hf : freeC l R b) (h0 : 0 ≤ r) : RI l (r + 1) (R.set b.toNat r) := by
  have hl := h.len
  have hG : ∀ u, 0 ≤ u → rd (R.set b.toNat r) u = if u = b then r else rd R u := fun u hu => rd_setI R b r u hb.1 (by omega) hu
  have hb1 : rd R b = -1 := by have := (h.val b hb.1 hb.2).1; have := hf.1; omega
  refine ⟨by rw [List.length_set]; exact hl, fun c c0 c1 => ?_, fun x hx hx1 => ?_, fun q q0 q1 => ?_, ?_⟩
  · rw [hG c c0]
    split
    · omega
    · have := h.val c c0 c1
      omega
  · have hxr := hd x hx
    rw [hG x.f1 hxr.2.1] at hx1 ⊢
    rw [hG x.f0 hxr.1.1]
    by_cases e1 : x.f1 = b
    · rw [if_pos e1]
      have hn := hf.2 x hx e1
      have hv := h.val x.f0 hxr.1.1 hxr.1.2
      rw [if_neg (by intro e; rw [e] at hn; omega)]
      omega
    · rw [if_neg e1] at hx1 ⊢
      have := h.rise x hx hx1
      have hv := h.val x.f0 hxr.1.1 hxr.1.2
      rw [if_neg (by intro e; rw [e] at this; omega)]
      exact this
  · by_cases e : q = r
    · refine ⟨b, hb, ?_⟩
      rw [hG b hb.1, if_pos rfl, e]
    · obtain ⟨c, hc, e2⟩ := h.all q q0 (by omega)
      refine ⟨c, hc, ?_⟩
      rw [hG c hc.1, if_neg (by intro e3; rw [e3] at e2; omega)]
      exact e2
  · have := count_setI R b r (-1) hb.1 (by omega) hb1 (by omega)
    have := h.cnt
    omega
theorem rd_repl (c : Int) (h0 : 0 ≤ c) (h1 : c ≤ 127) : rd (List.replicate 128 (-1 : Int)) c = -1 := by
  rw [rd_eq, List.getD_eq_getElem?_getD, List.getElem?_replicate, if_pos (by omega)]
  rfl
theorem RI.start {l : List S44} (hd : ∀ x ∈ l, dIn x) : RI l 0 (List.replicate 128 (-1)) := by
  refine ⟨by simp, fun c c0 c1 => ?_, fun x hx hx1 => ?_, fun q q0 q1 => by omega, ?_⟩
  · rw [rd_repl c c0 c1]; omega
  · have hxr := hd x hx
    rw [rd_repl x.f1 hxr.2.1 hxr.2.2] at hx1
    omega
  · rw [List.count_replicate_self]; omega
/-- What comes of it: an order, or a closed walk. -/
theorem Ord.good {l : List S44} (hd : ∀ x ∈ l, dIn x) {d : Nat} {R : List Int} {r : List Int × Bool} (h : Ord l d R r) : RI l (128 - (d : Int)) R → d ≤ 128 → (r.2 = true ∧ RI l 128 r.1) ∨ (r = ([], false) ∧ ∃ a n, 0 < n ∧ Wk (adjL l) n a a) := by
  induction h with
  | done R =>
    intro hi _
    exact Or.inl ⟨rfl, by simpa using hi⟩
  | @fail d R h =>
    intro hi hdl
    refine Or.inr ⟨rfl, ?_⟩
    rcases h with ⟨_, h⟩ | ⟨h, _⟩
    · have hc : 0 < R.count (-1) := by have := hi.cnt; omega
      have hm := List.count_pos_iff.1 hc
      obtain ⟨i, hi2, e⟩ := List.getElem_of_mem hm
      have hl := hi.len
      have hri : rd R (i : Int) = -1 := by
        rw [rd_eq, Int.toNat_natCast, List.getD_eq_getElem?_getD, List.getElem?_eq_getElem hi2, e]
        rfl
      refine closed_of_preds (adj := adjL l) (U := fun c => (0 ≤ c ∧ c ≤ 127) ∧ rd R c < 0) (fun c hc => hc.1) (fun c hc => ?_) (c := (i : Int)) ⟨⟨by omega, by omega⟩, by omega⟩
      have hn := h c hc.1.1 hc.1.2
      refine Classical.byContradiction fun hno => hn ⟨hc.2, fun x hx e hx0 => hno ⟨x.f0, ⟨x, hx, rfl, e⟩, (hd x hx).1, hx0⟩⟩
    · omega
  | @step d R b r h h0 t ih =>
    intro hi hdl
    rcases h with ⟨rfl, _⟩ | ⟨h1, h2, _⟩
    · omega
    · have e1 : (127 : Int) - (d : Int) = 128 - ((d + 1 : Nat) : Int) := by omega
      have := hi.put hd h1 h2 (by omega)
      rw [← e1] at this
      exact ih (by rw [show (128 : Int) - (d : Int) = 127 - (d : Int) + 1 by omega]; exact this) (by omega)
theorem RI.nowalk {l : List S44} (hd : ∀ x ∈ l, dIn x) {R : List Int} (h : RI l 128 R) : ∀ (n : Nat) (a c : Int), 0 < n → Wk (adjL l) n a c → rd R a < rd R c
  | 0, _, _, h0, _ => by omega
  | n + 1, a, c, _, ⟨b, ⟨x, hx, e0, e1⟩, hw⟩ => by
    have hr := hd x hx
    have hv := h.val x.f1 hr.2.1 hr.2.2
    have hc0 : R.count (-1) = 0 := by have := h.cnt; omega
    have hne : rd R x.f1 ≠ -1 := fun e => by
      have hl := h.len
      have hlt : x.f1.toNat < R.length := by omega
      rw [rd_eq, List.getD_eq_getElem?_getD, List.getElem?_eq_getElem hlt] at e
      have : 0 < R.count (-1) := List.count_pos_iff.2 (by
        have e2 : R[x.f1.toNat] = -1 := e
        exact e2 ▸ List.getElem_mem hlt)
      omega
    have := (h.rise x hx (by omega)).2
    rw [e0, e1] at this
    rcases Nat.eq_zero_or_pos n with hn | hn
    · subst hn
      have e : b = c := hw
      rw [← e]
      exact this
    · have := RI.nowalk hd h n b c hn hw
      omega

/-! ### inside -/
theorem inside_f (a b c : Int) : impl_inside.f a b c = some (decide (b ≤ a ∧ a ≤ c)) := by
  unfold impl_inside.f
  by_cases h : b ≤ a
  · rw [if_pos h]
    simp [h]
  · rw [if_neg h]
    simp [h]

/-! ### dependsOk_i -/
theorem compare_f (a b c d : Int) (ha : 0 ≤ a ∧ a ≤ 127) (hb : 0 ≤ b ∧ b ≤ 127) (hc : 0 ≤ c ∧ c ≤ 127) (hd : 0 ≤ d ∧ d ≤ 127) : ∃ r, impl_compareDepends.f a b c d = some r ∧ (r ≥ 0 ↔ ¬ (a < c ∨ (a = c ∧ b < d))) := by
  unfold impl_compareDepends.f
  by_cases h2 : a = c
  · refine ⟨b - d, ?_, by omega⟩
    rw [if_pos h2, w64 (by omega) (by omega)]
  · refine ⟨a - c, ?_, by omega⟩
    rw [if_neg h2, w64 (by omega) (by omega)]
theorem DependsOk_i_go : ∀ (rest p : List S44) (y : S44), dIn y → (p ++ [y]).length + rest.length < 1152921504606846976 →
    Ev (fun k => impl_DependsOk.l0 k (p ++ [y] ++ rest) (p ++ [y] ++ rest) ((p ++ [y] ++ rest).length : Int) ((p ++ [y]).length : Int)) (dGo y rest)
  | [], p, y, _, _ => by
    refine Ev.suc ?_
    simp only [impl_DependsOk.l0]
    exact Ev.ite_neg (by simp) (Ev.val rfl)
  | x :: rest, p, y, hyI, hl => by
    simp only [List.length_cons] at hl
    obtain ⟨hp, hy⟩ := prev_rd p y x rest (by omega)
    have hx := rdI_Depend (p ++ [y]) x rest
    have h1 : ((p ++ [y]).length : Int) < ((p ++ [y] ++ x :: rest).length : Int) := by simp only [List.length_append, List.length_cons]; omega
    have h2 : (p.length : Int) < ((p ++ [y] ++ x :: rest).length : Int) := by simp only [List.length_append, List.length_cons]; omega
    have h3 : ((p ++ [y]).length : Int) > 0 := by simp only [List.length_append, List.length_cons]; omega
    have hw : wrap64 (((p ++ [y]).length : Int) + 1) = ((p ++ [y] ++ [x]).length : Int) := by
      have e : ((p ++ [y] ++ [x]).length : Int) = ((p ++ [y]).length : Int) + 1 := len_snoc (p ++ [y]) x
      rw [e]
      exact w64 (by omega) (by omega)
    refine Ev.suc ?_
    simp only [impl_DependsOk.l0, hp, hy, hx, hw, inside_f, Option.bind_some, decide_eq_true_eq]
    rw [dGo_cons]
    refine Ev.ite_pos h1 (Ev.ite_pos (by omega) (Ev.ite_pos h1 (Ev.ite (fun c1 => Ev.ite (fun c2 => Ev.ite_pos h3 (Ev.ite_pos (by omega) (Ev.ite_pos h2 ?_))) (fun c2 => Ev.val ?_)) (fun c1 => Ev.val ?_))))
    · obtain ⟨r, e, hr⟩ := compare_f y.f0 y.f1 x.f0 x.f1 hyI.1 hyI.2 c1 c2
      have ih := DependsOk_i_go rest (p ++ [y]) x ⟨c1, c2⟩ (by simp only [List.length_append, List.length_cons, List.length_nil] at hl ⊢; omega)
      rw [← snoc_app (p ++ [y]) x rest] at ih
      simp only [e, Option.bind_some]
      refine Ev.ite (fun c3 => Ev.val ?_) (fun c3 => Ev.eq ih ?_)
      · rw [decide_eq_false (show ¬ dLt y x from hr.1 c3), Bool.false_and, Bool.and_false]
      · rw [decide_eq_true (show dIn x from ⟨c1, c2⟩), decide_eq_true (show dLt y x from Decidable.not_not.1 (fun z => c3 (hr.2 z))), Bool.true_and, Bool.true_and]
    · rw [decide_eq_false (show ¬ dIn x from fun z => c2 z.2), Bool.false_and]
    · rw [decide_eq_false (show ¬ dIn x from fun z => c1 z.1), Bool.false_and]
theorem DependsOk_i (l : List S44) (hl : l.length ≤ 1048576) : Ev (fun k => impl_DependsOk.f k l) (dAll l) := by
  unfold impl_DependsOk.f
  cases l with
  | nil =>
    refine Ev.suc ?_
    simp only [impl_DependsOk.l0]
    exact Ev.ite_neg (by simp) (Ev.val rfl)
  | cons x r =>
    have hx : rd_T44 (x :: r) 0 = x := rfl
    have hw : wrap64 ((0 : Int) + 1) = (([] ++ [x] : List S44).length : Int) := w64 (by omega) (by omega)
    have h1 : (0 : Int) < ((x :: r).length : Int) := by simp only [List.length_cons]; omega
    refine Ev.suc ?_
    simp only [impl_DependsOk.l0, hx, hw, inside_f, Option.bind_some, decide_eq_true_eq]
    rw [dAll_cons]
    refine Ev.ite_pos h1 (Ev.ite_pos (by omega) (Ev.ite_pos h1 (Ev.ite (fun c1 => Ev.ite (fun c2 => Ev.ite_neg (by omega) (Ev.eq (DependsOk_i_go r [] x ⟨c1, c2⟩ (by simp at hl ⊢; omega)) ?_)) (fun c2 => Ev.val ?_)) (fun c1 => Ev.val ?_))))
    · rw [decide_eq_true (show dIn x from ⟨c1, c2⟩), Bool.true_and]
    · rw [decide_eq_false (show ¬ dIn x from fun z => c2 z.2), Bool.false_and]
    · rw [decide_eq_false (show ¬ dIn x from fun z => c1 z.1), Bool.false_and]

/-! ### order_i -/
/-- What the program writes beside the ranks: -2 for what may be taken, so far. -/
theorem ordI_l1 (l : List S44) (R : List Int) (hR : R.length = 128) (q z : Int) (r : List Int × Bool)
    (hk : ∀ F : List Int, F.length = 128 → (∀ c, 0 ≤ c → c ≤ 127 → rd F c = if rd R c < 0 then -2 else rd R c) → Ev (fun k => impl_OrderOf.l2 k l R q F z l (l.length : Int) 0) r) :
    ∀ (d : Nat) (i : Int) (F : List Int), 0 ≤ i → 128 - i = (d : Int) → F.length = 128 → (∀ c, 0 ≤ c → c ≤ 127 → rd F c = if c < i then (if rd R c < 0 then -2 else rd R c) else rd R c) → Ev (fun k => impl_OrderOf.l1 k l R q F z R (R.length : Int) i) r
  | 0, i, F, h0, hi, hF, hv => by
    have := hk F hF (fun c c0 c1 => by rw [hv c c0 c1, if_pos (by omega)])
    refine Ev.suc ?_
    simp only [impl_OrderOf.l1]
    exact Ev.ite_neg (by omega) this
  | d + 1, i, F, h0, hi, hF, hv => by
    have hw : wrap64 (i + 1) = i + 1 := w64 (by omega) (by omega)
    refine Ev.suc ?_
    simp only [impl_OrderOf.l1, hw]
    refine Ev.ite_pos (by omega) (Ev.ite_pos h0 (Ev.ite_pos (by omega) (Ev.ite (fun q1 => Ev.ite_pos (by omega) ?_) (fun q1 => ?_))))
    · refine ordI_l1 l R hR q z r hk d (i + 1) (F.set i.toNat (-2)) (by omega) (by omega) (by rw [List.length_set]; exact hF) (fun c c0 c1 => ?_)
      rw [rd_setI F i (-2) c h0 (by omega) c0, hv c c0 c1]
      by_cases e : c = i
      · rw [if_pos e, e, if_pos (by omega), if_pos q1]
      · rw [if_neg e]
        by_cases e2 : c < i
        · rw [if_pos e2, if_pos (show c < i + 1 by omega)]
        · rw [if_neg e2, if_neg (show ¬ c < i + 1 by omega)]
    · refine ordI_l1 l R hR q z r hk d (i + 1) F (by omega) (by omega) hF (fun c c0 c1 => ?_)
      rw [hv c c0 c1]
      by_cases e : c = i
      · rw [e, if_neg (by omega), if_pos (by omega), if_neg q1]
      · by_cases e2 : c < i
        · rw [if_pos e2, if_pos (show c < i + 1 by omega)]
        · rw [if_neg e2, if_neg (show ¬ c < i + 1 by omega)]
/-- What stands beside the ranks behind the elements 'pre'. -/
def FI (R F : List Int) (pre : List S44) : Prop := F.length = 128 ∧ ∀ c, 0 ≤ c → c ≤ 127 → ((rd R c < 0 ∧ (∃ x, x ∈ pre ∧ x.f1 = c ∧ rd R x.f0 < 0) ∧ rd F c = -1) ∨ (rd R c < 0 ∧ (∀ x ∈ pre, x.f1 = c → ¬ rd R x.f0 < 0) ∧ rd F c = -2) ∨ (¬ rd R c < 0 ∧ rd F c = rd R c))
theorem ordI_l2 (l : List S44) (hl : l.length ≤ 1048576) (hd : ∀ x ∈ l, dIn x) (R : List Int) (hR : R.length = 128) (q z : Int) (r : List Int × Bool)
    (hk : ∀ F : List Int, FI R F l → Ev (fun k => (impl_nextRanked.f k l F).bind fun t143 => (if t143 < 0 then (some (([] : List Int), false)) else (if 0 ≤ t143 then (if t143 < (R.length : Int) then (impl_OrderOf.l0 k l (R.set (t143 : Int).toNat q) (wrap64 (z + 1))) else (none)) else (none)))) r) :
    ∀ (rest pre : List S44) (F : List Int), l = pre ++ rest → FI R F pre → Ev (fun k => impl_OrderOf.l2 k l R q F z l (l.length : Int) (pre.length : Int)) r
  | [], pre, F, e, hF => by
    rw [List.append_nil] at e
    have := hk F (e ▸ hF)
    refine Ev.suc ?_
    simp only [impl_OrderOf.l2]
    exact Ev.ite_neg (by rw [e]; omega) this
  | x :: rest, pre, F, e, hF => by
    have hlen : pre.length + (rest.length + 1) = l.length := by rw [e]; simp
    have hxr := hd x (by rw [e]; exact List.mem_append.2 (Or.inr List.mem_cons_self))
    have hw : wrap64 ((pre.length : Int) + 1) = ((pre ++ [x]).length : Int) := by rw [w64 (by omega) (by omega), len_snoc]
    have hx : rd_T44 l (pre.length : Int) = x := by rw [e]; exact rdI_Depend pre x rest
    have go := fun F' hF' => ordI_l2 l hl hd R hR q z r hk rest (pre ++ [x]) F' (by rw [e]; simp) hF'
    obtain ⟨hFl, hFv⟩ := hF
    have keep : (¬ (rd R x.f0 < 0 ∧ rd R x.f1 < 0)) → FI R F (pre ++ [x]) := fun hn => ⟨hFl, fun c c0 c1 => by
      rcases hFv c c0 c1 with ⟨h1, ⟨y, hy, hy1, hy2⟩, h3⟩ | ⟨h1, h2, h3⟩ | ⟨h1, h2⟩
      · exact Or.inl ⟨h1, ⟨y, List.mem_append.2 (Or.inl hy), hy1, hy2⟩, h3⟩
      · refine Or.inr (Or.inl ⟨h1, fun y hy hy1 hy2 => ?_, h3⟩)
        rcases List.mem_append.1 hy with hy | hy
        · exact h2 y hy hy1 hy2
        · rw [List.mem_singleton.1 hy] at hy1 hy2
          exact hn ⟨hy2, by rw [hy1]; exact h1⟩
      · exact Or.inr (Or.inr ⟨h1, h2⟩)⟩
    refine Ev.suc ?_
    simp only [impl_OrderOf.l2, hx, hw]
    refine Ev.ite_pos (by omega) (Ev.ite_pos (by omega) (Ev.ite_pos (by omega) (Ev.ite_pos hxr.1.1 (Ev.ite_pos (by omega) (Ev.ite (fun q1 => Ev.ite_pos hxr.2.1 (Ev.ite_pos (by omega) (Ev.ite (fun q2 => Ev.ite_pos (by omega) ?_) (fun q2 => go F (keep (fun h => q2 h.2)))))) (fun q1 => go F (keep (fun h => q1 h.1))))))))
    refine go _ ⟨by rw [List.length_set]; exact hFl, fun c c0 c1 => ?_⟩
    rw [rd_setI F x.f1 (-1) c hxr.2.1 (by omega) c0]
    by_cases ec : c = x.f1
    · rw [if_pos ec, ec]
      exact Or.inl ⟨q2, ⟨x, List.mem_append.2 (Or.inr (List.mem_singleton.2 rfl)), rfl, q1⟩, rfl⟩
    · rw [if_neg ec]
      rcases hFv c c0 c1 with ⟨h1, ⟨y, hy, hy1, hy2⟩, h3⟩ | ⟨h1, h2, h3⟩ | ⟨h1, h2⟩
      · exact Or.inl ⟨h1, ⟨y, List.mem_append.2 (Or.inl hy), hy1, hy2⟩, h3⟩
      · refine Or.inr (Or.inl ⟨h1, fun y hy hy1 hy2 => ?_, h3⟩)
        rcases List.mem_append.1 hy with hy | hy
        · exact h2 y hy hy1 hy2
        · rw [List.mem_singleton.1 hy] at hy1
          exact ec hy1.symm
      · exact Or.inr (Or.inr ⟨h1, h2⟩)
theorem next_l0 (l : List S44) (R F : List Int) (hF : FI R F l) (hv : ∀ c, 0 ≤ c → c ≤ 127 → -1 ≤ rd R c) : ∀ (d : Nat) (c : Int), 0 ≤ c → 128 - c = (d : Int) → (∀ c', 0 ≤ c' → c' < c → ¬ freeC l R c') → ∃ b, Pick l R b ∧ Ev (fun k => impl_nextRanked.l0 k F c) b
  | 0, c, h0, hc, hn => by
    refine ⟨-1, Or.inl ⟨rfl, fun c' c0 c1 => hn c' c0 (by omega)⟩, Ev.suc ?_⟩
    simp only [impl_nextRanked.l0]
    exact Ev.ite_neg (by have := hF.1; omega) (Ev.now _)
  | d + 1, c, h0, hc, hn => by
    have hw : wrap64 (c + 1) = c + 1 := w64 (by omega) (by omega)
    have hFl := hF.1
    have hv' := hv c h0 (by omega)
    by_cases q : rd F c = -2
    · refine ⟨c, Or.inr ⟨⟨h0, by omega⟩, ?_, hn⟩, Ev.suc ?_⟩
      · rcases hF.2 c h0 (by omega) with ⟨_, _, h3⟩ | ⟨h1, h2, _⟩ | ⟨h1, h2⟩
        · omega
        · exact ⟨h1, h2⟩
        · omega
      · simp only [impl_nextRanked.l0]
        exact Ev.ite_pos (by omega) (Ev.ite_pos h0 (Ev.ite_pos q (Ev.now _)))
    · obtain ⟨b, hb, hr⟩ := next_l0 l R F hF hv d (c + 1) (by omega) (by omega) (fun c' h1 h2 hf => by
        by_cases e : c' = c
        · rw [e] at hf
          rcases hF.2 c h0 (by omega) with ⟨_, ⟨y, hy, hy1, hy2⟩, _⟩ | ⟨_, _, h3⟩ | ⟨h1, _⟩
          · exact hf.2 y hy hy1 hy2
          · exact q h3
          · exact h1 hf.1
        · exact hn c' h1 (by omega) hf)
      refine ⟨b, hb, Ev.suc ?_⟩
      simp only [impl_nextRanked.l0, hw]
      exact Ev.ite_pos (by omega) (Ev.ite_pos h0 (Ev.ite_neg q hr))
theorem ordI_step (l : List S44) (hl : l.length ≤ 1048576) (hd : ∀ x ∈ l, dIn x) (q : Int) (R : List Int) (hi : RI l q R) (hq0 : 0 ≤ q) (hq : q < 128) (b : Int) (hb : Pick l R b) (r : List Int × Bool) (hk : Ev (fun k => if b < 0 then (some (([] : List Int), false)) else (if 0 ≤ b then (if b < (R.length : Int) then (impl_OrderOf.l0 k l (R.set (b : Int).toNat q) (wrap64 (q + 1))) else (none)) else (none))) r) : Ev (fun k => impl_OrderOf.l0 k l R q) r := by
  have hR := hi.len
  have h := ordI_l1 l R hR q q r (fun F hF hv => ordI_l2 l hl hd R hR _ _ r (fun F' hF' => by
    obtain ⟨b', hb', hr'⟩ := next_l0 l R F' hF' (fun c c0 c1 => (hi.val c c0 c1).1) 128 0 (by omega) (by omega) (fun c' h0 h1 => by omega)
    obtain rfl := hb.unique hb'
    unfold impl_nextRanked.f
    exact Ev.bind hr' hk) l [] F rfl ⟨hF, fun c c0 c1 => by
      rw [hv c c0 c1]
      by_cases e : rd R c < 0
      · rw [if_pos e]
        exact Or.inr (Or.inl ⟨e, fun y hy => (by cases hy), rfl⟩)
      · rw [if_neg e]
        exact Or.inr (Or.inr ⟨e, rfl⟩)⟩) 128 0 R (by omega) (by omega) hR (fun c c0 c1 => by rw [if_neg (by omega)])
  refine Ev.suc ?_
  simp only [impl_OrderOf.l0]
  refine Ev.ite_pos (by omega) (Ev.bind (a := R) ?_ h)
  unfold slices_Clone_int_int.f
  rw [if_pos ⟨by omega, by omega⟩]
  exact Ev.now _
theorem ordI_l0 (l : List S44) (hl : l.length ≤ 1048576) (hd : ∀ x ∈ l, dIn x) : ∀ (d : Nat) (R : List Int), d ≤ 128 → RI l (128 - (d : Int)) R → ∃ r, Ord l d R r ∧ Ev (fun k => impl_OrderOf.l0 k l R (128 - (d : Int))) r := by
  intro d
  induction d with
  | zero =>
    intro R _ hi
    refine ⟨(R, true), .done R, Ev.suc ?_⟩
    simp only [impl_OrderOf.l0]
    exact Ev.ite_neg (by omega) (Ev.now _)
  | succ d ih =>
    intro R hdl hi
    have hR := hi.len
    obtain ⟨b, hb⟩ := pick_ex l R
    have fin : ∀ r, Ev (fun k => if b < 0 then (some (([] : List Int), false)) else (if 0 ≤ b then (if b < (R.length : Int) then (impl_OrderOf.l0 k l (R.set (b : Int).toNat (128 - ((d + 1 : Nat) : Int))) (wrap64 (128 - ((d + 1 : Nat) : Int) + 1))) else (none)) else (none))) r → Ev (fun k => impl_OrderOf.l0 k l R (128 - ((d + 1 : Nat) : Int))) r := fun r hk => by
      exact ordI_step l hl hd _ R hi (by omega) (by omega) b hb r hk
    by_cases q : b < 0
    · have e : b = -1 := by
        rcases hb with ⟨h, _⟩ | ⟨h, _⟩
        · exact h
        · omega
      subst e
      exact ⟨([], false), .fail hb, fin _ (Ev.ite_pos q (Ev.now _))⟩
    · have hf : (0 ≤ b ∧ b ≤ 127) ∧ freeC l R b := by
        rcases hb with ⟨h, _⟩ | ⟨h, h2, _⟩
        · omega
        · exact ⟨h, h2⟩
      have hi' := hi.put hd hf.1 hf.2 (by omega)
      rw [show (128 : Int) - ((d + 1 : Nat) : Int) = 127 - (d : Int) by omega, show (127 : Int) - (d : Int) + 1 = 128 - (d : Int) by omega] at hi'
      obtain ⟨r, ho, hr⟩ := ih (R.set b.toNat (127 - (d : Int))) (by omega) hi'
      refine ⟨r, .step hb (by omega) ho, fin _ (Ev.ite_neg q (Ev.ite_pos (by omega) (Ev.ite_pos (by omega) ?_)))⟩
      rw [show (128 : Int) - ((d + 1 : Nat) : Int) = 127 - (d : Int) by omega, w64 (by omega) (by omega), show (127 : Int) - (d : Int) + 1 = 128 - (d : Int) by omega]
      exact hr
theorem OrderOf_i (l : List S44) (hl : l.length ≤ 1048576) : ∃ r, Ev (fun k => impl_OrderOf.f k l) r ∧ (if dAll l = true then Ord l 128 (List.replicate 128 (-1)) r else r = ([], false)) := by
  have hok := DependsOk_i l hl
  by_cases h : dAll l = true
  · rw [h] at hok
    obtain ⟨r, ho, hr⟩ := ordI_l0 l hl (dAll_in l h) 128 (List.replicate 128 (-1)) (by omega) (RI.start (dAll_in l h))
    refine ⟨r, ?_, by rw [if_pos h]; exact ho⟩
    unfold impl_OrderOf.f slices_Repeat_int_int.f
    rw [if_pos ⟨rfl, rfl⟩]
    simp only [Option.bind_some]
    exact Ev.bind hok (Ev.ite_pos rfl hr)
  · refine ⟨([], false), ?_, by rw [if_neg h]⟩
    unfold impl_OrderOf.f
    exact Ev.bind hok (Ev.ite_neg h (Ev.now _))

/-! ### in -/
theorem l01In_f (a b c : Int) : spec_l01In.f a b c = some (decide (b ≤ a ∧ a ≤ c)) := by
  unfold spec_l01In.f
  by_cases h : a ≥ b
  · rw [if_pos h]
    simp [show b ≤ a from h]
  · rw [if_neg h]
    simp [show ¬ b ≤ a from h]

/-! ### dependsOk_s -/
theorem DependsOk_s_go : ∀ (rest p : List S44) (y : S44), (p ++ [y]).length + rest.length < 1152921504606846976 →
    Ev (fun k => spec_DependsOk.l0 k (p ++ [y] ++ rest) ((p ++ [y]).length : Int)) (dGo y rest)
  | [], p, y, _ => by
    refine Ev.suc ?_
    simp only [spec_DependsOk.l0]
    exact Ev.ite_neg (by simp) (Ev.val rfl)
  | x :: rest, p, y, hl => by
    simp only [List.length_cons] at hl
    obtain ⟨hp, hy⟩ := prev_rd p y x rest (by omega)
    have hx := rdI_Depend (p ++ [y]) x rest
    have h1 : ((p ++ [y]).length : Int) < ((p ++ [y] ++ x :: rest).length : Int) := by simp only [List.length_append, List.length_cons]; omega
    have h2 : (p.length : Int) < ((p ++ [y] ++ x :: rest).length : Int) := by simp only [List.length_append, List.length_cons]; omega
    have h3 : ((p ++ [y]).length : Int) > 0 := by simp only [List.length_append, List.length_cons]; omega
    have hw : wrap64 (((p ++ [y]).length : Int) + 1) = ((p ++ [y] ++ [x]).length : Int) := by
      have e : ((p ++ [y] ++ [x]).length : Int) = ((p ++ [y]).length : Int) + 1 := len_snoc (p ++ [y]) x
      rw [e]
      exact w64 (by omega) (by omega)
    have ih := DependsOk_s_go rest (p ++ [y]) x (by simp only [List.length_append, List.length_cons, List.length_nil] at hl ⊢; omega)
    rw [← snoc_app (p ++ [y]) x rest] at ih
    refine Ev.suc ?_
    simp only [spec_DependsOk.l0, hp, hy, hx, hw, l01In_f, less_f, Option.bind_some, decide_eq_true_eq]
    rw [dGo_cons]
    refine Ev.ite_pos h1 (Ev.ite_pos (by omega) (Ev.ite (fun c1 => Ev.ite (fun c2 => Ev.ite_pos h3 (Ev.ite_pos (by omega) (Ev.ite_pos h2 (Ev.ite (fun c3 => Ev.eq ih ?_) (fun c3 => Ev.val ?_))))) (fun c2 => Ev.val ?_)) (fun c1 => Ev.val ?_)))
    · rw [decide_eq_true (show dIn x from ⟨c1, c2⟩), decide_eq_true (show dLt y x from c3), Bool.true_and, Bool.true_and]
    · rw [decide_eq_false (show ¬ dLt y x from c3), Bool.false_and, Bool.and_false]
    · rw [decide_eq_false (show ¬ dIn x from fun z => c2 z.2), Bool.false_and]
    · rw [decide_eq_false (show ¬ dIn x from fun z => c1 z.1), Bool.false_and]
theorem DependsOk_s (l : List S44) (hl : l.length ≤ 1048576) : Ev (fun k => spec_DependsOk.f k l) (dAll l) := by
  unfold spec_DependsOk.f
  cases l with
  | nil =>
    refine Ev.suc ?_
    simp only [spec_DependsOk.l0]
    exact Ev.ite_neg (by simp) (Ev.val rfl)
  | cons x r =>
    have hx : rd_T44 (x :: r) 0 = x := rfl
    have hw : wrap64 ((0 : Int) + 1) = (([] ++ [x] : List S44).length : Int) := w64 (by omega) (by omega)
    have h1 : (0 : Int) < ((x :: r).length : Int) := by simp only [List.length_cons]; omega
    have ih := DependsOk_s_go r [] x (by simp at hl ⊢; omega)
    refine Ev.suc ?_
    simp only [spec_DependsOk.l0, hx, hw, l01In_f, Option.bind_some, decide_eq_true_eq]
    rw [dAll_cons]
    refine Ev.ite_pos h1 (Ev.ite_pos (by omega) (Ev.ite (fun c1 => Ev.ite (fun c2 => Ev.ite_neg (by omega) (Ev.eq ih ?_)) (fun c2 => Ev.val ?_)) (fun c1 => Ev.val ?_)))
    · rw [decide_eq_true (show dIn x from ⟨c1, c2⟩), Bool.true_and]
    · rw [decide_eq_false (show ¬ dIn x from fun z => c2 z.2), Bool.false_and]
    · rw [decide_eq_false (show ¬ dIn x from fun z => c1 z.1), Bool.false_and]

/-! ### order_s -/
theorem free_l0 (l : List S44) (hd : ∀ x ∈ l, dIn x) (R : List Int) (hR : R.length = 128) (c : Int) : ∀ (rest pre : List S44), l = pre ++ rest → l.length ≤ 1048576 → Ev (fun k => spec_l09Free.l0 k l R c (pre.length : Int)) (decide (∀ x ∈ rest, x.f1 = c → ¬ rd R x.f0 < 0))
  | [], pre, e, hl => by
    refine Ev.suc ?_
    simp only [spec_l09Free.l0]
    exact Ev.ite_neg (by rw [e]; simp) (Ev.val (by simp))
  | x :: rest, pre, e, hl => by
    have hlen : pre.length + (rest.length + 1) = l.length := by rw [e]; simp
    have hxr := hd x (by rw [e]; exact List.mem_append.2 (Or.inr List.mem_cons_self))
    have hw : wrap64 ((pre.length : Int) + 1) = ((pre ++ [x]).length : Int) := by rw [w64 (by omega) (by omega), len_snoc]
    have hx : rd_T44 l (pre.length : Int) = x := by rw [e]; exact rdI_Depend pre x rest
    have ih := free_l0 l hd R hR c rest (pre ++ [x]) (by rw [e]; simp) hl
    refine Ev.suc ?_
    simp only [spec_l09Free.l0, hx, hw]
    refine Ev.ite_pos (by omega) (Ev.ite_pos (by omega) (Ev.ite (fun q1 => Ev.ite_pos hxr.1.1 (Ev.ite_pos (by omega) (Ev.ite (fun q2 => Ev.val ?_) (fun q2 => Ev.eq ih ?_)))) (fun q1 => Ev.eq ih ?_)))
    · rw [eq_comm, decide_eq_false_iff_not]
      exact fun h => h x List.mem_cons_self q1 q2
    · rw [decide_eq_decide]
      exact ⟨fun h y hy => (List.mem_cons.1 hy).elim (fun e _ => e ▸ q2) (fun hy => h y hy), fun h y hy => h y (List.mem_cons_of_mem _ hy)⟩
    · rw [decide_eq_decide]
      exact ⟨fun h y hy => (List.mem_cons.1 hy).elim (fun e h => absurd (e ▸ h) q1) (fun hy => h y hy), fun h y hy => h y (List.mem_cons_of_mem _ hy)⟩
theorem orders_l2 (l : List S44) (hl : l.length ≤ 1048576) (hd : ∀ x ∈ l, dIn x) (R : List Int) (hR : R.length = 128) (q : Int) (b : Int) (hb : Pick l R b) (r : List Int × Bool)
    (hk : Ev (fun k => if b < 0 then (some (([] : List Int), false)) else (if 0 ≤ b then (if b < (R.length : Int) then (spec_OrderOf.l1 k l (R.set (b : Int).toNat q) (wrap64 (q + 1))) else (none)) else (none))) r) :
    ∀ (d : Nat) (c : Int), 0 ≤ c → 128 - c = (d : Int) → (∀ c', 0 ≤ c' → c' < c → ¬ freeC l R c') → Ev (fun k => spec_OrderOf.l2 k l R q (-1) c) r
  | 0, c, h0, hc, hn => by
    have e : b = -1 := by
      rcases hb with ⟨h, _⟩ | ⟨h1, h2, _⟩
      · exact h
      · exact absurd h2 (hn b h1.1 (by omega))
    subst e
    refine Ev.suc ?_
    simp only [spec_OrderOf.l2]
    refine Ev.ite_neg (by omega) (Ev.suc ?_)
    simp only [spec_OrderOf.j3]
    exact Ev.ite_neg (by simp) hk
  | d + 1, c, h0, hc, hn => by
    have hw : wrap64 (c + 1) = c + 1 := w64 (by omega) (by omega)
    have hf := free_l0 l hd R hR c l [] rfl hl
    have go := fun (hq : ¬ freeC l R c) => orders_l2 l hl hd R hR q b hb r hk d (c + 1) (by omega) (by omega) (fun c' h1 h2 => by
      by_cases e : c' = c
      · rw [e]; exact hq
      · exact hn c' h1 (by omega))
    refine Ev.suc ?_
    simp only [spec_OrderOf.l2]
    refine Ev.ite_pos (by omega) (Ev.suc ?_)
    simp only [spec_OrderOf.j3, hw]
    refine Ev.ite_pos (by simp) (Ev.ite_pos h0 (Ev.ite_pos (by omega) (Ev.ite (fun q1 => Ev.bind hf (Ev.ite (fun q2 => ?_) (fun q2 => go (fun h => q2 (decide_eq_true h.2))))) (fun q1 => go (fun h => q1 h.1)))))
    have hfree : freeC l R c := ⟨q1, of_decide_eq_true q2⟩
    have e : b = c := by
      rcases hb with ⟨_, h⟩ | ⟨h1, h2, h3⟩
      · exact absurd hfree (h c h0 (by omega))
      · rcases Int.lt_trichotomy b c with e | e | e
        · exact absurd h2 (hn b h1.1 e)
        · exact e
        · exact absurd hfree (h3 c h0 e)
    subst e
    refine Ev.suc ?_
    simp only [spec_OrderOf.l2]
    refine Ev.ite (fun _ => Ev.suc ?_) (fun _ => Ev.suc ?_)
    · simp only [spec_OrderOf.j3]
      exact Ev.ite_neg (by simp; omega) hk
    · simp only [spec_OrderOf.j3]
      exact Ev.ite_neg (by simp) hk
theorem orders_l1 (l : List S44) (hl : l.length ≤ 1048576) (hd : ∀ x ∈ l, dIn x) : ∀ (d : Nat) (R : List Int), d ≤ 128 → R.length = 128 → ∃ r, Ord l d R r ∧ Ev (fun k => spec_OrderOf.l1 k l R (128 - (d : Int))) r
  | 0, R, _, hR => ⟨(R, true), .done R, Ev.suc (by
    simp only [spec_OrderOf.l1]
    exact Ev.ite_neg (by omega) (Ev.now _))⟩
  | d + 1, R, hdl, hR => by
    obtain ⟨b, hb⟩ := pick_ex l R
    have fin : ∀ r, Ev (fun k => if b < 0 then (some (([] : List Int), false)) else (if 0 ≤ b then (if b < (R.length : Int) then (spec_OrderOf.l1 k l (R.set (b : Int).toNat (128 - ((d + 1 : Nat) : Int))) (wrap64 (128 - ((d + 1 : Nat) : Int) + 1))) else (none)) else (none))) r → Ev (fun k => spec_OrderOf.l1 k l R (128 - ((d + 1 : Nat) : Int))) r := fun r hk => by
      have h := orders_l2 l hl hd R hR _ b hb r hk 128 0 (by omega) (by omega) (fun c' h0 h1 => by omega)
      refine Ev.suc ?_
      simp only [spec_OrderOf.l1]
      exact Ev.ite_pos (by omega) h
    by_cases q : b < 0
    · have e : b = -1 := by
        rcases hb with ⟨h, _⟩ | ⟨h, _⟩
        · exact h
        · omega
      subst e
      exact ⟨([], false), .fail hb, fin _ (Ev.ite_pos q (Ev.now _))⟩
    · have hb127 : b ≤ 127 := by
        rcases hb with ⟨h, _⟩ | ⟨h, _⟩
        · omega
        · exact h.2
      obtain ⟨r, ho, hr⟩ := orders_l1 l hl hd d (R.set b.toNat (127 - (d : Int))) (by omega) (by rw [List.length_set]; exact hR)
      refine ⟨r, .step hb (by omega) ho, fin _ (Ev.ite_neg q (Ev.ite_pos (by omega) (Ev.ite_pos (by omega) ?_)))⟩
      rw [show (128 : Int) - ((d + 1 : Nat) : Int) = 127 - (d : Int) by omega, w64 (by omega) (by omega), show (127 : Int) - (d : Int) + 1 = 128 - (d : Int) by omega]
      exact hr
theorem orders_l0 (l : List S44) (r : List Int × Bool) (hk : Ev (fun k => spec_OrderOf.l1 k l (List.replicate 128 (-1)) 0) r) : ∀ (d : Nat) (i : Nat), d + i = 128 → Ev (fun k => spec_OrderOf.l0 k l (List.replicate i (-1)) (i : Int)) r
  | 0, i, h => by
    obtain rfl : i = 128 := by omega
    refine Ev.suc ?_
    simp only [spec_OrderOf.l0]
    exact Ev.ite_neg (by omega) hk
  | d + 1, i, h => by
    have hw : wrap64 ((i : Int) + 1) = ((i + 1 : Nat) : Int) := by rw [w64 (by omega) (by omega)]; omega
    have ih := orders_l0 l r hk d (i + 1) (by omega)
    rw [List.replicate_succ'] at ih
    refine Ev.suc ?_
    simp only [spec_OrderOf.l0, hw]
    exact Ev.ite_pos (by omega) (Ev.ite_pos (by rw [List.length_replicate]; omega) ih)
theorem OrderOf_s (l : List S44) (hl : l.length ≤ 1048576) : ∃ r, Ev (fun k => spec_OrderOf.f k l) r ∧ (if dAll l = true then Ord l 128 (List.replicate 128 (-1)) r else r = ([], false)) := by
  have hok := DependsOk_s l hl
  by_cases h : dAll l = true
  · rw [h] at hok
    obtain ⟨r, ho, hr⟩ := orders_l1 l hl (dAll_in l h) 128 (List.replicate 128 (-1)) (by omega) (by simp)
    refine ⟨r, ?_, by rw [if_pos h]; exact ho⟩
    unfold spec_OrderOf.f
    refine Ev.bind (Ev.now _) (Ev.bind hok (Ev.ite_pos rfl ?_))
    exact orders_l0 l r hr 128 0 rfl
  · refine ⟨([], false), ?_, by rw [if_neg h]⟩
    unfold spec_OrderOf.f
    exact Ev.bind (Ev.now _) (Ev.bind hok (Ev.ite_neg h (Ev.now _)))

/-! ### contains -/
theorem Index_l0 (x : Int) : ∀ (rest pre : List Int), pre.length + rest.length < 1152921504606846976 → ∃ r, Ev (fun k => slices_Index_int_int.l0 k (pre ++ rest) x ((pre ++ rest).length : Int) (pre.length : Int)) r ∧ (r ≥ 0 ↔ x ∈ rest)
  | [], pre, _ => by
    refine ⟨-1, Ev.suc ?_, by simp⟩
    simp only [slices_Index_int_int.l0]
    exact Ev.ite_neg (by simp) (Ev.now _)
  | y :: rest, pre, hl => by
    simp only [List.length_cons] at hl
    have h1 : (pre.length : Int) < ((pre ++ y :: rest).length : Int) := by simp only [List.length_append, List.length_cons]; omega
    have hw : wrap64 ((pre.length : Int) + 1) = ((pre ++ [y]).length : Int) := by rw [w64 (by omega) (by omega), len_snoc]
    obtain ⟨r, hr, hr2⟩ := Index_l0 x rest (pre ++ [y]) (by simp only [List.length_append, List.length_cons, List.length_nil]; omega)
    rw [← snoc_app pre y rest] at hr
    by_cases h : x = y
    · refine ⟨(pre.length : Int), Ev.suc ?_, by simp [h]⟩
      simp only [slices_Index_int_int.l0, rd_mid]
      exact Ev.ite_pos h1 (Ev.ite_pos (by omega) (Ev.ite_pos h1 (Ev.ite_pos h (Ev.now _))))
    · refine ⟨r, Ev.suc ?_, by simp [h, hr2]⟩
      simp only [slices_Index_int_int.l0, rd_mid, hw]
      exact Ev.ite_pos h1 (Ev.ite_pos (by omega) (Ev.ite_pos h1 (Ev.ite_neg h hr)))
theorem Contains_i (l : List Int) (x : Int) (h : l.length < 1152921504606846976) : Ev (fun k => slices_Contains_int_int.f k l x) (decide (x ∈ l)) := by
  obtain ⟨r, hr, hr2⟩ := Index_l0 x l [] (by simpa using h)
  unfold slices_Contains_int_int.f slices_Index_int_int.f
  refine Ev.bind hr (Ev.val ?_)
  rw [decide_eq_decide]
  exact hr2

theorem isord_l0 (P : List Int) (hP : P.length = 128) (h : ∀ q, 0 ≤ q → q < 128 → q ∈ P) : ∀ (d : Nat) (x : Int), 0 ≤ x → 128 - x = (d : Int) → Ev (fun k => impl_IsOrder.l0 k P x) true
  | 0, x, h0, hx => by
    refine Ev.suc ?_
    simp only [impl_IsOrder.l0]
    exact Ev.ite_neg (by omega) (Ev.now _)
  | d + 1, x, h0, hx => by
    have hw : wrap64 (x + 1) = x + 1 := w64 (by omega) (by omega)
    have ih := isord_l0 P hP h d (x + 1) (by omega) (by omega)
    have hc := Contains_i P x (by omega)
    rw [decide_eq_true (h x h0 (by omega))] at hc
    refine Ev.suc ?_
    simp only [impl_IsOrder.l0, hw]
    exact Ev.ite_pos (by omega) (Ev.bind hc (Ev.ite_pos rfl ih))
theorem isord_l1 (l : List S44) (hd : ∀ x ∈ l, dIn x) (hl : l.length ≤ 1048576) (P : List Int) (hP : P.length = 128) (h : ∀ x ∈ l, rd P x.f0 < rd P x.f1) : ∀ (rest pre : List S44), l = pre ++ rest → Ev (fun k => impl_IsOrder.l1 k l P (pre.length : Int)) (-1)
  | [], pre, e => by
    refine Ev.suc ?_
    simp only [impl_IsOrder.l1]
    exact Ev.ite_neg (by rw [e]; simp) (Ev.now _)
  | x :: rest, pre, e => by
    have hlen : pre.length + (rest.length + 1) = l.length := by rw [e]; simp
    have hxm : x ∈ l := by rw [e]; exact List.mem_append.2 (Or.inr List.mem_cons_self)
    have hxr := hd x hxm
    have hw : wrap64 ((pre.length : Int) + 1) = ((pre ++ [x]).length : Int) := by rw [w64 (by omega) (by omega), len_snoc]
    have hx : rd_T44 l (pre.length : Int) = x := by rw [e]; exact rdI_Depend pre x rest
    have ih := isord_l1 l hd hl P hP h rest (pre ++ [x]) (by rw [e]; simp)
    have hlt := h x hxm
    refine Ev.suc ?_
    simp only [impl_IsOrder.l1, hx, hw]
    exact Ev.ite_pos (by omega) (Ev.ite_pos (by omega) (Ev.ite_pos hxr.1.1 (Ev.ite_pos (by omega) (Ev.ite_pos hxr.2.1 (Ev.ite_pos (by omega) (Ev.ite_neg (by omega) ih))))))
theorem mem_of_rd {P : List Int} {c q : Int} (h0 : 0 ≤ c) (h1 : c < (P.length : Int)) (h : rd P c = q) : q ∈ P := by
  have hlt : c.toNat < P.length := by omega
  rw [rd_eq, List.getD_eq_getElem?_getD, List.getElem?_eq_getElem hlt] at h
  have e : P[c.toNat] = q := h
  exact e ▸ List.getElem_mem hlt
/-- Each channel has a rank. -/
theorem RI.full {l : List S44} {R : List Int} (h : RI l 128 R) (c : Int) (h0 : 0 ≤ c) (h1 : c ≤ 127) : 0 ≤ rd R c := by
  have hv := h.val c h0 h1
  have hc0 : R.count (-1) = 0 := by have := h.cnt; omega
  have hl := h.len
  have hne : rd R c ≠ -1 := fun e => by
    have : 0 < R.count (-1) := List.count_pos_iff.2 (mem_of_rd h0 (by omega) e)
    omega
  omega
theorem IsOrder_i (l : List S44) (hl : l.length ≤ 1048576) (ha : dAll l = true) (R : List Int) (h : RI l 128 R) : Ev (fun k => impl_IsOrder.f k l R) true := by
  have hok := DependsOk_i l hl
  have hd := dAll_in l ha
  have hR := h.len
  rw [ha] at hok
  unfold impl_IsOrder.f
  refine Ev.bind hok (Ev.ite_pos rfl (Ev.ite_pos (by omega) (Ev.bind (isord_l0 R hR (fun q q0 q1 => ?_) 128 0 (by omega) (by omega)) (Ev.ite_pos rfl (Ev.bind (isord_l1 l hd hl R hR (fun x hx => ?_) l [] rfl) (Ev.val (by simp)))))))
  · obtain ⟨c, hc, e⟩ := h.all q q0 q1
    exact mem_of_rd hc.1 (by omega) e
  · have hxr := hd x hx
    exact (h.rise x hx (h.full x.f1 hxr.2.1 hxr.2.2)).2
/-- What the first rank is. -/
theorem Ord.first {l : List S44} (hd : ∀ x ∈ l, dIn x) {d : Nat} {R : List Int} {r : List Int × Bool} (h : Ord l d R r) (c : Int) (h0 : 0 ≤ c) (h1 : c ≤ 127) : RI l (128 - (d : Int)) R → d ≤ 128 → r.2 = true → 0 ≤ rd R c → rd r.1 c = rd R c := by
  induction h with
  | done R => intros; rfl
  | fail h =>
    intro _ _ hr
    cases hr
  | @step d R b r h hb t ih =>
    intro hi hdl hr hc
    rcases h with ⟨rfl, _⟩ | ⟨k1, k2, _⟩
    · omega
    · have hl := hi.len
      have hG := rd_setI R b (127 - (d : Int)) c k1.1 (by omega) h0
      have hbc : ¬ c = b := by
        rintro rfl
        have := k2.1
        omega
      rw [if_neg hbc] at hG
      have e1 : (127 : Int) - (d : Int) = 128 - ((d + 1 : Nat) : Int) := by omega
      have hi' := hi.put hd k1 k2 (by omega)
      rw [← e1, show (127 : Int) - (d : Int) + 1 = 128 - (d : Int) by omega] at hi'
      rw [ih hi' (by omega) hr (by rw [hG]; exact hc), hG]
theorem orders_l1b (l : List S44) (hl : l.length ≤ 1048576) (P : List Int) (f c : Int) (r : Bool) : ∀ (rest pre : List S44) (b : Bool), l = pre ++ rest →
    Ev (fun k => if (b && decide (∀ x ∈ rest, x.f1 ≠ c)) = true then (laws_FnOrders.l0 k l P c (wrap64 (c - 1))) else (laws_FnOrders.l0 k l P f (wrap64 (c - 1)))) r → Ev (fun k => laws_FnOrders.l1 k l P f c b (pre.length : Int)) r
  | [], pre, b, e, hk => by
    refine Ev.suc ?_
    simp only [laws_FnOrders.l1]
    refine Ev.ite_neg (by rw [e]; simp) ?_
    simpa using hk
  | x :: rest, pre, b, e, hk => by
    have hlen : pre.length + (rest.length + 1) = l.length := by rw [e]; simp
    have hw : wrap64 ((pre.length : Int) + 1) = ((pre ++ [x]).length : Int) := by rw [w64 (by omega) (by omega), len_snoc]
    have hx : rd_T44 l (pre.length : Int) = x := by rw [e]; exact rdI_Depend pre x rest
    have go := fun b' h => orders_l1b l hl P f c r rest (pre ++ [x]) b' (by rw [e]; simp) h
    refine Ev.suc ?_
    simp only [laws_FnOrders.l1, hx, hw]
    refine Ev.ite_pos (by omega) ?_
    cases b with
    | true =>
      refine Ev.ite_pos rfl (Ev.ite_pos (by omega) (go _ ?_))
      have e2 : (true && decide (∀ y ∈ x :: rest, y.f1 ≠ c)) = ((x.f1 != c) && decide (∀ y ∈ rest, y.f1 ≠ c)) := by
        rw [Bool.eq_iff_iff]
        simp
      rw [e2] at hk
      exact hk
    | false =>
      refine Ev.ite_neg (by simp) (go false ?_)
      simpa using hk
/-- The least channel without predecessors, looked for from above. -/
def LeastFree (l : List S44) (x f : Int) : Prop := (f = -1 ∧ ∀ c, x < c → c ≤ 127 → ∃ y ∈ l, y.f1 = c) ∨ ((x < f ∧ f ≤ 127) ∧ (∀ y ∈ l, y.f1 ≠ f) ∧ ∀ c, x < c → c < f → ∃ y ∈ l, y.f1 = c)
theorem orders_l0b (l : List S44) (hl : l.length ≤ 1048576) (P : List Int) (r : Bool) (hk : ∀ f, LeastFree l (-1) f → Ev (fun k => (impl_IsOrder.f k l P).bind fun t256 => (if t256 = true then (if f ≥ 0 then (if 0 ≤ f then (if f < (P.length : Int) then (some ((rd P f) == 0)) else (none)) else (none)) else (none)) else (none))) r) :
    ∀ (d : Nat) (x f : Int), x = (d : Int) - 1 → x ≤ 127 → LeastFree l x f → Ev (fun k => laws_FnOrders.l0 k l P f x) r
  | 0, x, f, hx, _, hf => by
    have e : x = -1 := by omega
    subst e
    refine Ev.suc ?_
    simp only [laws_FnOrders.l0]
    exact Ev.ite_neg (by omega) (hk f hf)
  | d + 1, x, f, hx, h127, hf => by
    have hw : wrap64 (x - 1) = x - 1 := w64 (by omega) (by omega)
    refine Ev.suc ?_
    simp only [laws_FnOrders.l0]
    refine Ev.ite_pos (by omega) (orders_l1b l hl P f x r l [] true rfl ?_)
    rw [hw]
    refine Ev.ite (fun q => ?_) (fun q => ?_)
    · rw [Bool.true_and, decide_eq_true_eq] at q
      refine orders_l0b l hl P r hk d (x - 1) x (by omega) (by omega) (Or.inr ⟨⟨by omega, by omega⟩, q, fun c h1 h2 => by omega⟩)
    · rw [Bool.true_and, decide_eq_true_eq] at q
      have hex : ∃ y ∈ l, y.f1 = x := Classical.byContradiction fun h => q (fun y hy e => h ⟨y, hy, e⟩)
      refine orders_l0b l hl P r hk d (x - 1) f (by omega) (by omega) ?_
      rcases hf with ⟨rfl, hf⟩ | ⟨h1, h2, h3⟩
      · refine Or.inl ⟨rfl, fun c hc hc2 => ?_⟩
        by_cases e : c = x
        · rw [e]; exact hex
        · exact hf c (by omega) hc2
      · refine Or.inr ⟨⟨by omega, h1.2⟩, h2, fun c hc hc2 => ?_⟩
        by_cases e : c = x
        · rw [e]; exact hex
        · exact h3 c (by omega) hc2
theorem FnOrders : FnOrders_says := by
  intro b hl
  refine Ev.rounds ?_
  unfold laws_FnOrders.f
  simp only [big_f, Option.bind_some]
  refine Ev.ite (fun _ => Ev.now _) (fun hbig => ?_)
  simp only [decide_eq_true_eq] at hbig
  obtain ⟨l, e1, ha, hn, hr⟩ := DrawDepends_f b (by omega)
  have hd := dAll_in l ha
  obtain ⟨r, eo, ho⟩ := OrderOf_i l (by omega)
  obtain ⟨r', es, hs⟩ := OrderOf_s l (by omega)
  rw [if_pos ha] at ho hs
  obtain rfl := ho.unique hs
  refine Ev.bind e1 (Ev.bind eo (Ev.bind es ?_))
  rcases ho.good hd (RI.start hd) (by omega) with ⟨h1, h2⟩ | ⟨rfl, _⟩
  · obtain ⟨R, ok⟩ := r
    simp only at h1 h2
    subst h1
    have hR := h2.len
    refine Ev.ite_pos rfl (Ev.ite_pos (by simp only; omega) ?_)
    refine orders_l0b l (by omega) R true (fun f hf => ?_) 128 127 (-1) (by omega) (by omega) (Or.inl ⟨rfl, fun c h0 h3 => by omega⟩)
    have hi := IsOrder_i l (by omega) ha R h2
    -- the first step takes the least free channel
    obtain ⟨hz, hzf⟩ : (0 ≤ f ∧ f ≤ 127) ∧ rd R f = 0 := by
      cases ho with
      | step h hb t =>
        rename_i b0
        have hfr : ∀ c, 0 ≤ c → c ≤ 127 → (freeC l (List.replicate 128 (-1)) c ↔ ∀ y ∈ l, y.f1 ≠ c) := fun c c0 c1 => by
          unfold freeC
          rw [rd_repl c c0 c1]
          constructor
          · intro h y hy e
            have hyr := hd y hy
            have := h.2 y hy e
            rw [rd_repl y.f0 hyr.1.1 hyr.1.2] at this
            omega
          · exact fun h => ⟨by omega, fun y hy e => absurd e (h y hy)⟩
        rcases h with ⟨rfl, _⟩ | ⟨k1, k2, k3⟩
        · omega
        · have e : f = b0 := by
            rcases hf with ⟨_, hf⟩ | ⟨j1, j2, j3⟩
            · obtain ⟨y, hy, e⟩ := hf b0 (by omega) k1.2
              exact absurd e ((hfr b0 k1.1 k1.2).1 k2 y hy)
            · rcases Int.lt_trichotomy f b0 with e | e | e
              · exact absurd ((hfr f (by omega) j1.2).2 j2) (k3 f (by omega) e)
              · exact e
              · obtain ⟨y, hy, e'⟩ := j3 b0 (by omega) e
                exact absurd e' ((hfr b0 k1.1 k1.2).1 k2 y hy)
          subst e
          have hi0 : RI l 0 (List.replicate 128 (-1)) := RI.start hd
          have hi1 := hi0.put hd k1 k2 (by omega)
          have hG := rd_setI (List.replicate 128 (-1 : Int)) f 0 f k1.1 (by simp; omega) k1.1
          rw [if_pos rfl] at hG
          refine ⟨k1, ?_⟩
          have := t.first hd f k1.1 k1.2 (by simpa using hi1) (by omega) rfl (by
            simp only [Nat.reduceAdd] at *
            rw [show (127 : Int) - ((127 : Nat) : Int) = 0 by omega, hG]; omega)
          rw [this, show (127 : Int) - ((127 : Nat) : Int) = 0 by omega, hG]
    exact Ev.bind hi (Ev.ite_pos rfl (Ev.ite_pos hz.1 (Ev.ite_pos hz.1 (Ev.ite_pos (by omega) (Ev.val (by rw [hzf]; rfl))))))
  · exact Ev.ite_neg (by simp) (Ev.ite_neg (by simp) (Ev.val rfl))

end Go.Proofs.Ytagmogkdlimofaa.Pure
