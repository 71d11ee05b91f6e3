/- Each function that the law comes to, as a plain function, with the proof that the call in the model gives what that function says (written by a program of this session out of the translation). No condition. -/
import Derived.Test.YtchhgfgebomegaaPFnSendsx0
import Derived.Test.YtchhgfgebomegaaPFnSendsx6
import Derived.Test.YtchhgfgebomegaaPFnSendsx10
namespace Go.Proofs.Ytchhgfgebomegaa.PFnSends
open Go.RowKit Go.Proofs.YtchhgfgebomegaaW.PrintWords Go.Proofs.YtchhgfgebomegaaW.PrintLast Go.Proofs.YtchhgfgebomegaaW.PrintMore
attribute [local go_sem] max2_int min2_int max_two min_two max_three min_three max_four min_four   -- for this text's walks alone
set_option linter.unusedVariables false
set_option linter.unusedSimpArgs false

/-! ### a region of events in whatever order: each event's facts alone, told apart by a tag for each block -/
section
variable {P : Program} {ops : Array Oper} {Q : Exit → Act → World → Prop} {md : Region.Mode} {S : World → Prop}
theorem wpAnyLast_more : ∀ (n : Nat) (l : Array Bool) (a : Act) (w : World), wpAnyLast P md ops Q S [] n l a w → wpAnyLast P md ops Q S [] (n + 1) l a w
  | 0, l, a, w, h => ⟨fun _ => h.2, by rw [h.1]; simp⟩
  | n + 1, l, a, w, h => ⟨h.1, fun i hi => wpOp_mono (fun a' w' h' => ⟨h'.1, wpAnyLast_more n _ a' w' h'.2⟩) (h.2 i hi)⟩
theorem wpAnyLast_moreN {n : Nat} {l : Array Bool} {a : Act} {w : World} (h : wpAnyLast P md ops Q S [] n l a w) : ∀ m, wpAnyLast P md ops Q S [] (n + m) l a w
  | 0 => h
  | m + 1 => wpAnyLast_more _ _ _ _ (wpAnyLast_moreN h m)
theorem count_lt {p q : Nat → Bool} (hpq : ∀ j, q j = true → p j = true) {i : Nat} (hp : p i = true) (hq : q i = false) : ∀ {evs : List Nat}, i ∈ evs → evs.countP q < evs.countP p
  | e :: r, h => by
    have hle : r.countP q ≤ r.countP p := List.countP_mono_left (fun x _ hx => hpq x hx)
    rw [List.countP_cons, List.countP_cons]
    rcases List.mem_cons.1 h with rfl | h
    · rw [if_neg (by simp [hq]), if_pos hp]; omega
    · have := count_lt hpq hp hq h
      by_cases hx : q e = true
      · rw [if_pos hx, if_pos (hpq e hx)]; omega
      · rw [if_neg hx]; omega
def topoB (md : Region.Mode) (ops : Array Oper) (l0 : Array Bool) : List Nat → List Nat → Bool
  | _, [] => true
  | seen, e :: r => (match ops[e]? with | some o => o.after.all (fun d => !Region.binds md d || l0.getD d.on false || seen.contains d.on) | none => false) && topoB md ops l0 (e :: seen) r
theorem topo_ready {l0 l : Array Bool} (h0 : ∀ j, l0.getD j false = true → l.getD j false = true) (hs : l.size = ops.size) : ∀ (seen evs : List Nat), topoB md ops l0 seen evs = true → (∀ s ∈ seen, l.getD s false = true) → (∃ e ∈ evs, l.getD e true = false) → Region.ready md ops l ≠ []
  | seen, [], _, _, h => by obtain ⟨e, he, _⟩ := h; cases he
  | seen, e :: r, ht, hseen, h => by
    unfold topoB at ht
    rw [Bool.and_eq_true] at ht
    obtain ⟨h1, h2⟩ := ht
    cases ho : ops[e]? with
    | none => rw [ho] at h1; cases h1
    | some o =>
      rw [ho] at h1
      have hlt : e < ops.size := (Array.getElem?_eq_some_iff.1 ho).1
      by_cases hl : l.getD e true = false
      · intro hr
        have : e ∈ Region.ready md ops l := mem_ready.2 ⟨hl, o, ho, fun d hd hb => by
          have h3 := Array.all_eq_true_iff_forall_mem.1 h1 d hd
          simp only [hb, Bool.not_true, Bool.false_or, Bool.or_eq_true] at h3
          rcases h3 with h3 | h3
          · exact h0 _ h3
          · exact hseen _ (by simpa using h3)⟩
        rw [hr] at this
        cases this
      · refine topo_ready h0 hs (e :: seen) r h2 (fun s hs' => ?_) ?_
        · rcases List.mem_cons.1 hs' with rfl | hs'
          · have : s < l.size := by omega
            simp [this] at hl ⊢
            exact hl
          · exact hseen s hs'
        · obtain ⟨x, hx, hxl⟩ := h
          rcases List.mem_cons.1 hx with rfl | hx
          · exact absurd hxl hl
          · exact ⟨x, hx, hxl⟩
def evsB (md : Region.Mode) (ops : Array Oper) (tag cons : Nat → Nat) (evs : List Nat) (l0 lall : Array Bool) : Bool :=
  (ops.size == l0.size) && Region.closedB md ops l0 && topoB md ops l0 [] evs
    && (evs.all fun i => evs.all fun j => i == j || tag i != tag j || cons j == i || Region.reachB md ops i ops.size j)
    && ((List.range ops.size).all fun j => evs.contains j || l0.getD j true || evs.all fun e => Region.reachB md ops e ops.size j)
    && (evs.all fun j => !evs.contains (cons j) || Region.reachB md ops j ops.size (cons j))
    && (evs.all fun j => cons j != j && !l0.getD j true)
    && (evs.foldl (fun l i => l.setIfInBounds i true) l0 == lall)
theorem fold_size : ∀ (evs : List Nat) (l : Array Bool), (evs.foldl (fun l i => l.setIfInBounds i true) l).size = l.size
  | [], _ => rfl
  | e :: r, l => by rw [List.foldl_cons, fold_size r]; exact Array.size_setIfInBounds
theorem fold_get : ∀ (evs : List Nat) (l : Array Bool) (j : Nat), (evs.foldl (fun l i => l.setIfInBounds i true) l).getD j true = (if j ∈ evs then true else l.getD j true)
  | [], _, _ => by simp
  | e :: r, l, j => by
    rw [List.foldl_cons, fold_get r]
    by_cases hj : j ∈ r
    · rw [if_pos hj, if_pos (List.mem_cons_of_mem _ hj)]
    · rw [if_neg hj]
      by_cases he : j = e
      · subst he
        rw [if_pos List.mem_cons_self]
        rcases Nat.lt_or_ge j l.size with h | h
        · simp [h]
        · simp [Nat.not_lt.2 h]
      · rw [if_neg (by simp [he, hj]), getD_set_ne _ (Ne.symm he)]
theorem arr_ext {l l' : Array Bool} (hs : l.size = l'.size) (h : ∀ j, l.getD j true = l'.getD j true) : l = l' := by
  apply Array.ext hs
  intro i h1 h2
  have := h i
  simpa [h1, h2] using this
open Classical in
theorem evs_ (evs : List Nat) (tag cons : Nat → Nat) (act : (Nat → Value) → Act) (Fc : Nat → (Nat → Prop) → Value → World → Prop) (w0 : World) (B : Nat) (l0 lall : Array Bool) (hB : evsB md ops tag cons evs l0 lall = true)
    (hmono : ∀ i, i ∈ evs → ∀ ok ok' v w, Fc i ok v w → (∀ k, ok k → ok' k) → Fc i ok' v w)
    (hmove : ∀ i, i ∈ evs → ∀ ok v w w1, Fc i ok v w → (∀ k, ok k → k < w.heap.size → w1.heap[k]? = w.heap[k]?) → Fc i ok v w1)
    (hpos : ∀ i, i ∈ evs → tag i ≠ 0)
    (hev : ∀ i, i ∈ evs → ∃ oi, ops[i]? = some oi ∧ ∀ (T : Nat → Nat) (v : Nat → Value) (w : World), S w → Below w0.heap.size w0 w → B ≤ w.heap.size → (∀ k, T k ≠ 0 → B ≤ k ∧ k < w.heap.size) → (∀ j, j ∈ evs → cons j = i → Fc j (fun k => T k = tag j) (v j) w) →
      ∀ K : Act → World → Prop, (∀ x w1, S w1 → Below w0.heap.size w0 w1 → w.heap.size ≤ w1.heap.size → (∀ k, k < w.heap.size → T k ≠ tag i → w1.heap[k]? = w.heap[k]?) → Fc i (fun k => T k = tag i ∨ w.heap.size ≤ k ∧ k < w1.heap.size) x w1 → K (act (fun j => if j = i then x else v j)) w1) →
        if Region.wanted oi (yielded ops (act v).tmps) = true then Oper.wp P oi (act v) w K Q else K ((act v).put oi.dst undef) w)
    {m : Nat} (hcont : ∀ (T : Nat → Nat) (v : Nat → Value) (w : World), S w → Below w0.heap.size w0 w → (∀ k, T k ≠ 0 → B ≤ k ∧ k < w.heap.size) → (∀ j, j ∈ evs → cons j ∉ evs → Fc j (fun k => T k = tag j) (v j) w) → wpAnyLast P md ops Q S [] m lall (act v) w)
    (v : Nat → Value) (w : World) (hS : S w) (hW : Below w0.heap.size w0 w) (hBw : B ≤ w.heap.size) : wpAnyLast P md ops Q S [] (m + evs.length) l0 (act v) w := by
  simp only [evsB, Bool.and_eq_true, beq_iff_eq] at hB
  obtain ⟨⟨⟨⟨⟨⟨⟨b1, b2⟩, b3⟩, b4⟩, b5⟩, b6⟩, b7⟩, b8⟩ := hB
  suffices H : ∀ (c : Nat) (l : Array Bool) (T : Nat → Nat) (v : Nat → Value) (w : World), evs.countP (fun e => !l.getD e true) ≤ c → l.size = ops.size → ListedClosed md ops l → (∀ j, j ∉ evs → l.getD j true = l0.getD j true) →
      S w → Below w0.heap.size w0 w → B ≤ w.heap.size → (∀ k, T k ≠ 0 → B ≤ k ∧ k < w.heap.size) → (∀ j, j ∈ evs → l.getD j true = true → (cons j ∈ evs → l.getD (cons j) true = false) → Fc j (fun k => T k = tag j) (v j) w) →
      wpAnyLast P md ops Q S [] (m + c) l (act v) w from
    H evs.length l0 (fun _ => 0) v w List.countP_le_length b1.symm (Region.closedB_spec b2) (fun _ _ => rfl) hS hW hBw (fun k hk => absurd rfl hk) (fun j hj hl _ => by
      have := List.all_eq_true.1 b7 j hj
      simp [hl] at this)
  have hall : ∀ (l : Array Bool), evs.countP (fun e => !l.getD e true) = 0 → l.size = ops.size → (∀ j, j ∉ evs → l.getD j true = l0.getD j true) → l = lall := by
    intro l hc hs ho
    rw [← b8]
    refine arr_ext (by rw [fold_size, hs, b1]) (fun j => ?_)
    rw [fold_get]
    by_cases hj : j ∈ evs
    · rw [if_pos hj]
      have := List.countP_eq_zero.1 hc j hj
      simpa using this
    · rw [if_neg hj]
      exact ho j hj
  have hlist : ∀ (l : Array Bool), evs.countP (fun e => !l.getD e true) = 0 → ∀ j ∈ evs, l.getD j true = true := by
    intro l hc j hj
    have := List.countP_eq_zero.1 hc j hj
    simpa using this
  intro c
  induction c with
  | zero =>
    intro l T v w hc hs hcl ho hS hW hBw hT hF
    have hc0 := Nat.le_zero.1 hc
    rw [hall l hc0 hs ho]
    exact hcont T v w hS hW hT (fun j hj hcj => hF j hj (hlist l hc0 j hj) (fun h => absurd h hcj))
  | succ c ih =>
    intro l T v w hc hs hcl ho hS hW hBw hT hF
    by_cases hc0 : evs.countP (fun e => !l.getD e true) = 0
    · rw [hall l hc0 hs ho]
      exact wpAnyLast_moreN (hcont T v w hS hW hT (fun j hj hcj => hF j hj (hlist l hc0 j hj) (fun h => absurd h hcj))) _
    · have hex : ∃ e ∈ evs, l.getD e true = false := by
        have := List.countP_pos_iff.1 (Nat.pos_of_ne_zero hc0)
        obtain ⟨e, he, h⟩ := this
        exact ⟨e, he, by simpa using h⟩
      have h0l : ∀ j, l0.getD j false = true → l.getD j false = true := by
        intro j hj
        have hlt : j < l0.size := by
          rcases Nat.lt_or_ge j l0.size with h | h
          · exact h
          · simp [Nat.not_lt.2 h] at hj
        have hlt' : j < l.size := by omega
        have hjt : l0.getD j true = true := by
          simp only [Array.getD_eq_getD_getElem?, Array.getElem?_eq_getElem hlt, Option.getD_some] at hj ⊢
          exact hj
        have hne : j ∉ evs := fun hj' => by
          have := List.all_eq_true.1 b7 j hj'
          rw [hjt] at this
          simp at this
        have := ho j hne
        rw [hjt] at this
        simp only [Array.getD_eq_getD_getElem?, Array.getElem?_eq_getElem hlt', Option.getD_some] at this ⊢
        exact this
      refine ⟨fun hr => absurd hr (topo_ready h0l hs [] evs b3 (fun s h => by cases h) hex), fun i hi => ?_⟩
      have hiun := (mem_ready.1 hi).1
      have hie : i ∈ evs := by
        refine Classical.byContradiction fun hie => ?_
        have hlt : i < ops.size := by
          obtain ⟨_, o, h, _⟩ := mem_ready.1 hi
          exact (Array.getElem?_eq_some_iff.1 h).1
        have h5 := List.all_eq_true.1 b5 i (List.mem_range.2 hlt)
        rw [← ho i hie, hiun, Bool.or_false, Bool.or_eq_true] at h5
        rcases h5 with h5 | h5
        · exact hie (by simpa using h5)
        · obtain ⟨e, he, hel⟩ := hex
          exact Region.reach_not_ready hcl (List.all_eq_true.1 h5 e he) hel hi
      obtain ⟨oi, hoi, hgo⟩ := hev i hie
      refine wpOp_step hoi (fun K' hK => ?_)
      refine hgo T v w hS hW hBw hT (fun j hj hji => ?_) K' (fun x w1 hS1 hW1 hsz hkeep hFx => hK _ _ ⟨fun _ _ => hS1, ?_⟩)
      · refine hF j hj ?_ (fun _ => by rw [hji]; exact hiun)
        refine Classical.byContradiction fun hjl => ?_
        have hjl' : l.getD j true = false := by simpa using hjl
        have h6 := List.all_eq_true.1 b6 j hj
        rw [hji] at h6
        have hin : evs.contains i = true := by simpa using hie
        rw [hin] at h6
        exact Region.reach_not_ready hcl (by simpa using h6) hjl' hi
      · have hilt : i < l.size := by
          rcases Nat.lt_or_ge i l.size with h | h
          · exact h
          · simp [Nat.not_lt.2 h] at hiun
        have hset : (l.setIfInBounds i true).getD i true = true := by simp [hilt]
        refine ih (l.setIfInBounds i true) (fun k => if w.heap.size ≤ k ∧ k < w1.heap.size then tag i else T k) _ w1 ?_ (by rw [Array.size_setIfInBounds]; exact hs) (hcl.set hi) (fun j hj => ?_) hS1 hW1 (Nat.le_trans hBw hsz) (fun k hk => ?_) (fun j hj hjl hcj => ?_)
        · have := count_lt (p := fun e => !l.getD e true) (q := fun e => !(l.setIfInBounds i true).getD e true) (fun j hj => by
            by_cases hji : i = j
            · subst hji; simp [hset] at hj
            · rw [getD_set_ne _ hji] at hj; exact hj) (i := i) (by simpa using hiun) (by simp [hset]) hie
          omega
        · have hne : i ≠ j := fun h => hj (h ▸ hie)
          rw [getD_set_ne _ hne]
          exact ho j hj
        · have hk : (if w.heap.size ≤ k ∧ k < w1.heap.size then tag i else T k) ≠ 0 := hk
          split at hk
          · rename_i h; exact ⟨Nat.le_trans hBw h.1, h.2⟩
          · have := hT k hk; exact ⟨this.1, Nat.lt_of_lt_of_le this.2 hsz⟩
        · by_cases hji : j = i
          · subst hji
            rw [if_pos rfl]
            refine hmono j hj _ _ _ _ hFx (fun k hk => ?_)
            rcases hk with hk | hk
            · have h1 : T k ≠ 0 := by rw [hk]; exact hpos j hj
              rw [if_neg (fun h => by have := (hT k h1).2; omega)]
              exact hk
            · rw [if_pos hk]
          · rw [if_neg hji]
            rw [getD_set_ne _ (Ne.symm hji)] at hjl
            have hcj' : cons j ∈ evs → l.getD (cons j) true = false := fun h => by
              have h2 := hcj h
              by_cases hci : i = cons j
              · rw [← hci, hset] at h2; cases h2
              · rwa [getD_set_ne _ hci] at h2
            have hold := hF j hj hjl hcj'
            have hti : tag j ≠ tag i := by
              intro hti
              have h4 := List.all_eq_true.1 (List.all_eq_true.1 b4 i hie) j hj
              simp only [Bool.or_eq_true, beq_iff_eq, bne_iff_ne, ne_eq] at h4
              rcases h4 with ((h4 | h4) | h4) | h4
              · exact hji h4.symm
              · exact h4 hti.symm
              · have h2 := hcj (by rw [h4]; exact hie)
                rw [h4, hset] at h2
                cases h2
              · have hjf : l.getD j false = true := by
                  have hjlt : j < l.size := by
                    rcases Nat.lt_or_ge j ops.size with h | h
                    · omega
                    · have : ∃ oj, ops[j]? = some oj := by obtain ⟨oj, h', _⟩ := hev j hj; exact ⟨oj, h'⟩
                      obtain ⟨oj, h'⟩ := this
                      exact hs ▸ (Array.getElem?_eq_some_iff.1 h').1
                  simp only [Array.getD_eq_getD_getElem?, Array.getElem?_eq_getElem hjlt, Option.getD_some] at hjl ⊢
                  exact hjl
                have := Region.reach_listed hcl _ _ h4 hjf
                simp only [Array.getD_eq_getD_getElem?, Array.getElem?_eq_getElem hilt, Option.getD_some] at this hiun
                rw [this] at hiun
                cases hiun
            refine hmono j hj _ _ _ _ (hmove j hj _ _ _ _ hold (fun k hk hlt => hkeep k hlt (by rw [hk]; exact hti))) (fun k hk => ?_)
            have h1 : T k ≠ 0 := by rw [hk]; exact hpos j hj
            rw [if_neg (fun h => by have := (hT k h1).2; omega)]
            exact hk
end
/-- What is known of an event's value. -/
structure Ev where
  F : (Nat → Prop) → Value → World → Prop
  mono : ∀ ok ok' v w, F ok v w → (∀ k, ok k → ok' k) → F ok' v w
  move : ∀ ok v w w1, F ok v w → (∀ k, ok k → k < w.heap.size → w1.heap[k]? = w.heap[k]?) → F ok v w1
def Ev.no : Ev := ⟨fun _ _ _ => False, fun _ _ _ _ h _ => h, fun _ _ _ _ h _ => h⟩
def Ev.R {α : Type} (d : Kd α) (e B : Nat) (xs : List α) : Ev := ⟨fun ok v w => d.R e w B ok v xs, fun _ _ _ _ h hk => Kd.R_mono h hk, fun _ _ _ _ h hm => Kd.R_step h hm⟩
def Ev.S {α : Type} (d : Kd α) (e B : Nat) (xs : List α) : Ev := ⟨fun ok v w => Kd.S d e w B ok v xs, fun _ _ _ _ h hk => Kd.S_mono h hk, fun _ _ _ _ h hm => Kd.S_step h hm⟩
/-- A struct with one row (a mesh). -/
def Ev.A1 (e B : Nat) (x y : Value) (xs : List Int) : Ev := ⟨fun ok v w => ∃ u, v = .agg #[x, y, u] ∧ (Kd.int .i64).R e w B ok u xs, fun _ _ _ _ ⟨u, h1, h⟩ hk => ⟨u, h1, Kd.R_mono h hk⟩, fun _ _ _ _ ⟨u, h1, h⟩ hm => ⟨u, h1, Kd.R_step h hm⟩⟩
/-- A struct with two rows (two tables). -/
def Ev.A2 (e B : Nat) (xs ys : List Int) : Ev := ⟨fun ok v w => ∃ u u', v = .agg #[u, u'] ∧ (Kd.int .i64).R e w B (fun k => ok k ∧ some k ≠ u'.ownBlock) u xs ∧ (Kd.int .i64).R e w B (fun k => ok k ∧ some k ≠ u.ownBlock) u' ys,
  fun _ _ _ _ ⟨u, u', h1, h, h'⟩ hk => ⟨u, u', h1, Kd.R_mono h (fun k hk' => ⟨hk k hk'.1, hk'.2⟩), Kd.R_mono h' (fun k hk' => ⟨hk k hk'.1, hk'.2⟩)⟩,
  fun _ _ _ _ ⟨u, u', h1, h, h'⟩ hm => ⟨u, u', h1, Kd.R_step h (fun k hk => hm k hk.1), Kd.R_step h' (fun k hk => hm k hk.1)⟩⟩
theorem evsA_ {P : Program} {ops : Array Oper} {Q : Exit → Act → World → Prop} {md : Region.Mode} {S : World → Prop} {a : Act} {w : World} {l0 : Array Bool} {n : Nat} (evs : List Nat) (tag cons : Nat → Nat) (ns : (Nat → Value) → List (Tmp × Value)) (E : Nat → Ev) (lall : Array Bool) (m : Nat) (hn : n = m + evs.length) (hB : evsB md ops tag cons evs l0 lall = true)
    (h0 : putAll a (ns (fun _ => undef)) = a) (hpos : ∀ i, i ∈ evs → tag i ≠ 0) (hS : ∀ w1, Below w.heap.size w w1 → S w1)
    (hev : ∀ i, i ∈ evs → ∃ oi, ops[i]? = some oi ∧ (∀ v x, (putAll a (ns v)).put oi.dst x = putAll a (ns (fun j => if j = i then x else v j))) ∧ ∀ (T : Nat → Nat) (v : Nat → Value) (W : World), Below w.heap.size w W → w.heap.size ≤ W.heap.size → (∀ j, j ∈ evs → cons j = i → (E j).F (fun k => T k = tag j) (v j) W) →
      ∀ (K : Act → World → Prop) (a1 : Act), putAll a (ns v) = a1 → (∀ x w1, Below w.heap.size w w1 → W.heap.size ≤ w1.heap.size → (∀ k, k < W.heap.size → T k ≠ tag i → w1.heap[k]? = W.heap[k]?) → (E i).F (fun k => T k = tag i ∨ W.heap.size ≤ k ∧ k < w1.heap.size) x w1 → K (a1.put oi.dst x) w1) →
        if Region.wanted oi (yielded ops a1.tmps) = true then Oper.wp P oi a1 W K Q else K (a1.put oi.dst undef) W)
    (hcont : ∀ (T : Nat → Nat) (v : Nat → Value) (W : World), S W → Below w.heap.size w W → (∀ k, T k ≠ 0 → w.heap.size ≤ k ∧ k < W.heap.size) → (∀ j, j ∈ evs → cons j ∉ evs → (E j).F (fun k => T k = tag j) (v j) W) → wpAnyLast P md ops Q S [] m lall (putAll a (ns v)) W) : wpAnyLast P md ops Q S [] n l0 a w := by
  subst hn
  have := evs_ evs tag cons (fun v => putAll a (ns v)) (fun i => (E i).F) w w.heap.size l0 lall hB (fun i _ => (E i).mono) (fun i _ => (E i).move) hpos (fun i hi => ?_) hcont (fun _ => undef) w (hS w (Below.refl _ _)) (Below.refl _ _) (Nat.le_refl _)
  · rw [h0] at this
    exact this
  · obtain ⟨oi, ho, hp, h⟩ := hev i hi
    refine ⟨oi, ho, fun T v W _ hW hBW _ hc K hK => h T v W hW hBW hc K _ rfl (fun x w1 hb hs hk hF => ?_)⟩
    rw [hp v x]
    exact hK x w1 (hS w1 hb) hb hs hk hF
theorem rq_ {α : Type} {d : Kd α} {e B : Nat} {W w1 : World} {ok ok' : Nat → Prop} {v : Value} {xs : List α} (h : d.R e w1 W.heap.size ok v xs) (hb : B ≤ W.heap.size) (hk : ∀ k, ok k → W.heap.size ≤ k ∧ k < w1.heap.size → ok' k) : d.R e w1 B ok' v xs := Kd.R_lower (Kd.R_mono (Kd.R_bound h) (fun k h => hk k h.1 ⟨h.2.1, h.2.2.1⟩)) hb
theorem sqq_ {α : Type} {d : Kd α} {e B : Nat} {W w1 : World} {ok ok' : Nat → Prop} {v : Value} {xs : List α} (h : Kd.S d e w1 W.heap.size ok v xs) (hb : B ≤ W.heap.size) (hk : ∀ k, ok k → W.heap.size ≤ k ∧ k < w1.heap.size → ok' k) : Kd.S d e w1 B ok' v xs := Kd.S_lower (Kd.S_mono (Kd.S_bound h) (fun k h => hk k h.1 ⟨h.2.1, h.2.2.1⟩)) hb
/-! ### a network's rows, told apart by a tag for each block -/
structure Marks (T : Nat → Nat) (B : Nat) (w : World) (v2 v3 v4 v5 v6 v7 v8 v9 : Value) (l2 l3 l4 : List Int) (l5 : List (List S79)) (l6 l7 : List Int) (l8 l9 : List (List S79)) : Prop where
  lo : ∀ k, T k ≠ 0 → B ≤ k
  hi : ∀ k, T k ≠ 0 → k < w.heap.size
  h2 : Kd.R (Kd.int .i64) 3 w B (fun k => T k = 2) v2 l2
  h3 : Kd.R (Kd.int .i64) 3 w B (fun k => T k = 3) v3 l3
  h4 : Kd.R (Kd.int .i64) 3 w B (fun k => T k = 4) v4 l4
  h5 : Kd.S (Kd.slice 79 k79) 61 w B (fun k => T k = 5) v5 l5
  h6 : Kd.R (Kd.int .i64) 3 w B (fun k => T k = 6) v6 l6
  h7 : Kd.R (Kd.int .i64) 3 w B (fun k => T k = 7) v7 l7
  h8 : Kd.S (Kd.slice 79 k79) 61 w B (fun k => T k = 8) v8 l8
  h9 : Kd.S (Kd.slice 79 k79) 61 w B (fun k => T k = 9) v9 l9
section
variable {T : Nat → Nat} {B : Nat} {w w1 : World} {v2 v3 v4 v5 v6 v7 v8 v9 : Value} {l2 l3 l4 : List Int} {l5 : List (List S79)} {l6 l7 : List Int} {l8 l9 : List (List S79)}
theorem Marks.move (h : Marks T B w v2 v3 v4 v5 v6 v7 v8 v9 l2 l3 l4 l5 l6 l7 l8 l9) (hm : ∀ k, T k ≠ 0 → w1.heap[k]? = w.heap[k]?) (hs : w.heap.size ≤ w1.heap.size) : Marks T B w1 v2 v3 v4 v5 v6 v7 v8 v9 l2 l3 l4 l5 l6 l7 l8 l9 :=
  have m (n : Nat) (hn : n ≠ 0) : ∀ k, T k = n → w1.heap[k]? = w.heap[k]? := fun k e => hm k (e ▸ hn)
  ⟨h.lo, fun k hk => Nat.lt_of_lt_of_le (h.hi k hk) hs, Kd.R_move h.h2 (m 2 (by decide)), Kd.R_move h.h3 (m 3 (by decide)), Kd.R_move h.h4 (m 4 (by decide)), Kd.S_move h.h5 (m 5 (by decide)), Kd.R_move h.h6 (m 6 (by decide)), Kd.R_move h.h7 (m 7 (by decide)), Kd.S_move h.h8 (m 8 (by decide)), Kd.S_move h.h9 (m 9 (by decide))⟩
theorem Marks.below (h : Marks T B w v2 v3 v4 v5 v6 v7 v8 v9 l2 l3 l4 l5 l6 l7 l8 l9) (hb : Below w.heap.size w w1) : Marks T B w1 v2 v3 v4 v5 v6 v7 v8 v9 l2 l3 l4 l5 l6 l7 l8 l9 := h.move (fun k hk => hb.block k (h.hi k hk)) hb.size
theorem Marks.lower {B' : Nat} (h : Marks T B w v2 v3 v4 v5 v6 v7 v8 v9 l2 l3 l4 l5 l6 l7 l8 l9) (hb : B' ≤ B) : Marks T B' w v2 v3 v4 v5 v6 v7 v8 v9 l2 l3 l4 l5 l6 l7 l8 l9 :=
  ⟨fun k hk => Nat.le_trans hb (h.lo k hk), h.hi, Kd.R_lower h.h2 hb, Kd.R_lower h.h3 hb, Kd.R_lower h.h4 hb, Kd.S_lower h.h5 hb, Kd.R_lower h.h6 hb, Kd.R_lower h.h7 hb, Kd.S_lower h.h8 hb, Kd.S_lower h.h9 hb⟩
open Classical in
theorem marks_tag (hT : ∀ k, T k ≠ 0 → B ≤ k ∧ k < w.heap.size) (h2 : Kd.R (Kd.int .i64) 3 w B (fun k => T k = 2) v2 l2) (h3 : Kd.R (Kd.int .i64) 3 w B (fun k => T k = 3 ∧ some k ≠ v4.ownBlock) v3 l3) (h4 : Kd.R (Kd.int .i64) 3 w B (fun k => T k = 3 ∧ some k ≠ v3.ownBlock) v4 l4)
    (h5 : Kd.S (Kd.slice 79 k79) 61 w B (fun k => T k = 5) v5 l5) (h6 : Kd.R (Kd.int .i64) 3 w B (fun k => T k = 6) v6 l6) (h7 : Kd.R (Kd.int .i64) 3 w B (fun k => T k = 7) v7 l7) (h8 : Kd.S (Kd.slice 79 k79) 61 w B (fun k => T k = 8) v8 l8) (h9 : Kd.S (Kd.slice 79 k79) 61 w B (fun k => T k = 9) v9 l9) :
    ∃ T', Marks T' B w v2 v3 v4 v5 v6 v7 v8 v9 l2 l3 l4 l5 l6 l7 l8 l9 := by
  have hv : ∀ k, v4.ownBlock = some k → T k = 3 := fun k e => (h4.1 k e).1
  have hk : ∀ (n : Nat), n ≠ 3 → ∀ k, T k = n → (if some k = v4.ownBlock then 4 else T k) = n := fun n hn k e => by
    rw [if_neg (fun h => hn (e.symm.trans (hv k h.symm)))]; exact e
  refine ⟨fun k => if some k = v4.ownBlock then 4 else T k, fun k h => ?_, fun k h => ?_, Kd.R_mono h2 (hk 2 (by decide)), Kd.R_mono h3 (fun k h => by rw [if_neg h.2]; exact h.1), Kd.R_mono (Kd.R_tight rfl h4) (fun k e => if_pos e), Kd.S_mono h5 (hk 5 (by decide)), Kd.R_mono h6 (hk 6 (by decide)), Kd.R_mono h7 (hk 7 (by decide)), Kd.S_mono h8 (hk 8 (by decide)), Kd.S_mono h9 (hk 9 (by decide))⟩
  · by_cases e : some k = v4.ownBlock
    · exact (hT k (by rw [hv k e.symm]; decide)).1
    · rw [if_neg e] at h; exact (hT k h).1
  · by_cases e : some k = v4.ownBlock
    · exact (hT k (by rw [hv k e.symm]; decide)).2
    · rw [if_neg e] at h; exact (hT k h).2
end

/-! ### impl_copyNet: function 22 -/
def impl_copyNet.f (k : Nat) (a0_0 : Int) (a0_1 : Int) (l0_2 : List Int) (l0_3 : List Int) (l0_4 : List Int) (l0_5 : List (List (S79))) (l0_6 : List Int) (l0_7 : List Int) (l0_8 : List (List (S79))) (l0_9 : List (List (S79))) (a0_10 : Int) : Option (Int × Int × List Int × List Int × List Int × (List (List (S79))) × List Int × List Int × (List (List (S79))) × (List (List (S79))) × Int) := (impl_copyMesh.f a0_0 a0_1 l0_2).bind fun bt391 => ((impl_copyClasses.f l0_3 l0_4).bind fun bt396 => ((impl_copyLists.f k l0_5).bind fun t402 => ((some (([] : List Int) : List Int)).bind fun y405 => (if y405.length + l0_6.length < 17592186044416 then ((some (([] : List Int) : List Int)).bind fun y411 => (if y411.length + l0_7.length < 17592186044416 then ((impl_copyLists.f k l0_8).bind fun t417 => ((impl_copyLists.f k l0_9).bind fun t420 => (some (bt391.1, bt391.2.1, bt391.2.2, bt396.1, bt396.2, t402, (y405 ++ l0_6), (y411 ++ l0_7), t417, t420, a0_10)))) else (none))) else (none)))))
theorem impl_copyNet.mono : ∀ a0 a1 a2 a3 a4 a5 a6 a7 a8 a9 a10 k, LeO (impl_copyNet.f k a0 a1 a2 a3 a4 a5 a6 a7 a8 a9 a10) (impl_copyNet.f (k + 1) a0 a1 a2 a3 a4 a5 a6 a7 a8 a9 a10) := by
 intro a0 a1 a2 a3 a4 a5 a6 a7 a8 a9 a10 k
 unfold impl_copyNet.f
 repeat' first
   | (with_reducible exact impl_copyLists.mono _ _)
   | (with_reducible exact LeO.refl _)
   | (with_reducible exact LeO.none _)
   | (with_reducible refine LeO.ite ?_ ?_)
   | (with_reducible refine LeO.bind ?_ (fun _ => ?_))
   | exact impl_copyLists.mono _ _
   | exact LeO.none _
   | refine LeO.ite ?_ ?_
   | refine LeO.bind ?_ (fun _ => ?_)
def impl_copyNet.T1 : Bool × List (List Nat × List Nat) := (true, [([], []), ([0], [0]), ([1], [1]), ([], []), ([3], [3]), ([4, 2], [4]), ([], []), ([6], [6]), ([7, 5], [7]), ([], []), ([], []), ([10], [10]), ([9, 11, 8], [9, 11]), ([], []), ([], []), ([14], [14]), ([13, 15, 12], [13, 15]), ([], []), ([17], [17]), ([18, 16], [18]), ([], []), ([20], [20]), ([21, 19], [21]), ([], []), ([23], [23]), ([2, 5, 8, 12, 16, 19, 22, 24], [2, 5, 8, 12, 16, 19, 22, 24]), ([25, 22, 0, 1, 2, 3, 4, 5, 6, 7, 8, 9, 10, 11, 12, 13, 14, 15, 16, 17, 18, 19, 20, 21, 22, 23, 24, 25], [25])])
def impl_copyNet.B1 : List Nat := [0, 1, 3, 0, 8, 31, 0, 64, 255, 0, 0, 1024, 4095, 0, 0, 16384, 65535, 0, 131072, 524287, 0, 1048576, 4194303, 0, 8388608, 33554431, 67108863]
theorem impl_copyNet.tab1 : rtab .any (opsOf Try.f22 1) = impl_copyNet.T1 := by kernel_rfl
theorem impl_copyNet.bits1 : waitsOk impl_copyNet.T1.2 impl_copyNet.B1 = true := by kernel_rfl
set_option maxHeartbeats 8000000 in
set_option maxRecDepth 100000 in
theorem impl_copyNet.calls (k : Nat) (a0_0 : Int) (a0_1 : Int) (A0_2 : Option Addr) (c0_2 : Nat) (l0_2 : List Int) (A0_3 : Option Addr) (c0_3 : Nat) (l0_3 : List Int) (A0_4 : Option Addr) (c0_4 : Nat) (l0_4 : List Int) (A0_5 : Option Addr) (c0_5 : Nat) (l0_5 : List (List (S79))) (A0_6 : Option Addr) (c0_6 : Nat) (l0_6 : List Int) (A0_7 : Option Addr) (c0_7 : Nat) (l0_7 : List Int) (A0_8 : Option Addr) (c0_8 : Nat) (l0_8 : List (List (S79))) (A0_9 : Option Addr) (c0_9 : Nat) (l0_9 : List (List (S79))) (a0_10 : Int) (r1 : Int) (r2 : Int) (r3 : List Int) (r4 : List Int) (r5 : List Int) (r6 : List (List (S79))) (r7 : List Int) (r8 : List Int) (r9 : List (List (S79))) (r10 : List (List (S79))) (r11 : Int) (w : World) (hr0_2 : Kd.C (Kd.int .i64) w A0_2 l0_2.length l0_2) (hc0_2 : l0_2.length ≤ c0_2) (hr0_3 : Kd.C (Kd.int .i64) w A0_3 l0_3.length l0_3) (hc0_3 : l0_3.length ≤ c0_3) (hr0_4 : Kd.C (Kd.int .i64) w A0_4 l0_4.length l0_4) (hc0_4 : l0_4.length ≤ c0_4) (hr0_5 : Kd.C (Kd.slice 79 k79) w A0_5 l0_5.length l0_5) (hc0_5 : l0_5.length ≤ c0_5) (hr0_6 : Kd.C (Kd.int .i64) w A0_6 l0_6.length l0_6) (hc0_6 : l0_6.length ≤ c0_6) (hr0_7 : Kd.C (Kd.int .i64) w A0_7 l0_7.length l0_7) (hc0_7 : l0_7.length ≤ c0_7) (hr0_8 : Kd.C (Kd.slice 79 k79) w A0_8 l0_8.length l0_8) (hc0_8 : l0_8.length ≤ c0_8) (hr0_9 : Kd.C (Kd.slice 79 k79) w A0_9 l0_9.length l0_9) (hc0_9 : l0_9.length ≤ c0_9) (h : impl_copyNet.f k a0_0 a0_1 l0_2 l0_3 l0_4 l0_5 l0_6 l0_7 l0_8 l0_9 a0_10 = some (r1, r2, r3, r4, r5, r6, r7, r8, r9, r10, r11)) :
  Calls Try.prog 22 #[.agg #[.int .i64 a0_0, .int .i64 a0_1, .slice A0_2 l0_2.length c0_2, .slice A0_3 l0_3.length c0_3, .slice A0_4 l0_4.length c0_4, .slice A0_5 l0_5.length c0_5, .slice A0_6 l0_6.length c0_6, .slice A0_7 l0_7.length c0_7, .slice A0_8 l0_8.length c0_8, .slice A0_9 l0_9.length c0_9, .int .i64 a0_10]] w fun e w' => ∃ (T_ : Nat → Nat) (v2_ v3_ v4_ v5_ v6_ v7_ v8_ v9_ : Value), e = .returned (.agg #[.int .i64 r1, .int .i64 r2, v2_, v3_, v4_, v5_, v6_, v7_, v8_, v9_, .int .i64 r11]) ∧ Marks T_ w.heap.size w' v2_ v3_ v4_ v5_ v6_ v7_ v8_ v9_ r3 r4 r5 r6 r7 r8 r9 r10 ∧ Below w.heap.size w w' := by
 have hu38 := Try.underlying38
 have hu28 := Try.underlying28
 have hu32 := Try.underlying32
 have HR0_2 := Aside0.mk hr0_2
 have HC0_2 := Aside0.mk hc0_2
 clear hr0_2 hc0_2
 have HR0_3 := Aside0.mk hr0_3
 have HC0_3 := Aside0.mk hc0_3
 clear hr0_3 hc0_3
 have HR0_4 := Aside0.mk hr0_4
 have HC0_4 := Aside0.mk hc0_4
 clear hr0_4 hc0_4
 have HR0_5 := Aside0.mk hr0_5
 have HC0_5 := Aside0.mk hc0_5
 clear hr0_5 hc0_5
 have HR0_6 := Aside0.mk hr0_6
 have HC0_6 := Aside0.mk hc0_6
 clear hr0_6 hc0_6
 have HR0_7 := Aside0.mk hr0_7
 have HC0_7 := Aside0.mk hc0_7
 clear hr0_7 hc0_7
 have HR0_8 := Aside0.mk hr0_8
 have HC0_8 := Aside0.mk hc0_8
 clear hr0_8 hc0_8
 have HR0_9 := Aside0.mk hr0_9
 have HC0_9 := Aside0.mk hc0_9
 clear hr0_9 hc0_9
 have HB := Aside0.mk (Below.refl w.heap.size w)
 have H : ((impl_copyMesh.f a0_0 a0_1 l0_2).bind fun bt391 => ((impl_copyClasses.f l0_3 l0_4).bind fun bt396 => ((impl_copyLists.f k l0_5).bind fun t402 => ((some (([] : List Int) : List Int)).bind fun y405 => (if y405.length + l0_6.length < 17592186044416 then ((some (([] : List Int) : List Int)).bind fun y411 => (if y411.length + l0_7.length < 17592186044416 then ((impl_copyLists.f k l0_8).bind fun t417 => ((impl_copyLists.f k l0_9).bind fun t420 => (some (bt391.1, bt391.2.1, bt391.2.2, bt396.1, bt396.2, t402, (y405 ++ l0_6), (y411 ++ l0_7), t417, t420, a0_10)))) else (none))) else (none)))))) = some (r1, r2, r3, r4, r5, r6, r7, r8, r9, r10, r11) := h
 clear h
 replace H := Option.bind_eq_some_iff.mp H
 obtain ⟨⟨t391, t392, t393⟩, A20, H⟩ := H
 try dsimp only at H
 have A2 := Aside0.mk A20
 clear A20
 replace H := Option.bind_eq_some_iff.mp H
 obtain ⟨⟨t396, t399⟩, A30, H⟩ := H
 try dsimp only at H
 have A3 := Aside0.mk A30
 clear A30
 replace H := Option.bind_eq_some_iff.mp H
 obtain ⟨t402, A40, H⟩ := H
 try dsimp only at H
 have A4 := Aside0.mk A40
 clear A40
 obtain ⟨y405, hy405⟩ : ∃ y_ : List Int, y_ = (([] : List Int)) := ⟨_, rfl⟩
 replace H : (if y405.length + l0_6.length < 17592186044416 then ((some (([] : List Int) : List Int)).bind fun y411 => (if y411.length + l0_7.length < 17592186044416 then ((impl_copyLists.f k l0_8).bind fun t417 => ((impl_copyLists.f k l0_9).bind fun t420 => (some (t391, t392, t393, t396, t399, t402, (y405 ++ l0_6), (y411 ++ l0_7), t417, t420, a0_10)))) else (none))) else (none)) = some (r1, r2, r3, r4, r5, r6, r7, r8, r9, r10, r11) := by first | (rw [hy405]; with_reducible exact H) | (have H2_ := (Option.bind_some _ _).symm.trans H; rw [hy405]; with_reducible exact H2_) | (have H2_ := (Option.bind_some _ _).symm.trans H; with_reducible exact H2_) | with_reducible exact H | (rw [hy405]; exact H) | exact H
 have Ny405 := Aside0.mk hy405
 clear hy405
 by_cases c5 : y405.length + l0_6.length < 17592186044416
 ·rw [if_pos c5] at H
  have LMc5 := Aside0.mk c5
  clear c5
  obtain ⟨y408, hy408⟩ : ∃ y_ : List Int, y_ = (y405 ++ l0_6) := ⟨_, rfl⟩
  replace H : ((some (([] : List Int) : List Int)).bind fun y411 => (if y411.length + l0_7.length < 17592186044416 then ((impl_copyLists.f k l0_8).bind fun t417 => ((impl_copyLists.f k l0_9).bind fun t420 => (some (t391, t392, t393, t396, t399, t402, y408, (y411 ++ l0_7), t417, t420, a0_10)))) else (none))) = some (r1, r2, r3, r4, r5, r6, r7, r8, r9, r10, r11) := by first | (rw [hy408]; with_reducible exact H) | (have H2_ := (Option.bind_some _ _).symm.trans H; rw [hy408]; with_reducible exact H2_) | (have H2_ := (Option.bind_some _ _).symm.trans H; with_reducible exact H2_) | with_reducible exact H | (rw [hy408]; exact H) | exact H
  have Ny408 := Aside0.mk hy408
  clear hy408
  obtain ⟨y411, hy411⟩ : ∃ y_ : List Int, y_ = (([] : List Int)) := ⟨_, rfl⟩
  replace H : (if y411.length + l0_7.length < 17592186044416 then ((impl_copyLists.f k l0_8).bind fun t417 => ((impl_copyLists.f k l0_9).bind fun t420 => (some (t391, t392, t393, t396, t399, t402, y408, (y411 ++ l0_7), t417, t420, a0_10)))) else (none)) = some (r1, r2, r3, r4, r5, r6, r7, r8, r9, r10, r11) := by first | (rw [hy411]; with_reducible exact H) | (have H2_ := (Option.bind_some _ _).symm.trans H; rw [hy411]; with_reducible exact H2_) | (have H2_ := (Option.bind_some _ _).symm.trans H; with_reducible exact H2_) | with_reducible exact H | (rw [hy411]; exact H) | exact H
  have Ny411 := Aside0.mk hy411
  clear hy411
  by_cases c6 : y411.length + l0_7.length < 17592186044416
  ·rw [if_pos c6] at H
   have LMc6 := Aside0.mk c6
   clear c6
   obtain ⟨y414, hy414⟩ : ∃ y_ : List Int, y_ = (y411 ++ l0_7) := ⟨_, rfl⟩
   replace H : ((impl_copyLists.f k l0_8).bind fun t417 => ((impl_copyLists.f k l0_9).bind fun t420 => (some (t391, t392, t393, t396, t399, t402, y408, y414, t417, t420, a0_10)))) = some (r1, r2, r3, r4, r5, r6, r7, r8, r9, r10, r11) := by first | (rw [hy414]; with_reducible exact H) | (have H2_ := (Option.bind_some _ _).symm.trans H; rw [hy414]; with_reducible exact H2_) | (have H2_ := (Option.bind_some _ _).symm.trans H; with_reducible exact H2_) | with_reducible exact H | (rw [hy414]; exact H) | exact H
   have Ny414 := Aside0.mk hy414
   clear hy414
   replace H := Option.bind_eq_some_iff.mp H
   obtain ⟨t417, A70, H⟩ := H
   try dsimp only at H
   have A7 := Aside0.mk A70
   clear A70
   replace H := Option.bind_eq_some_iff.mp H
   obtain ⟨t420, A80, H⟩ := H
   try dsimp only at H
   have A8 := Aside0.mk A80
   clear A80
   simp only [Option.some.injEq, Prod.mk.injEq] at H
   obtain ⟨rfl, rfl, rfl, rfl, rfl, rfl, rfl, rfl, rfl, rfl, rfl⟩ := H
   go_enter Try.func22, Try.ntmps22
   try go_wp2_with (first | ((with_reducible refine gate_dst (N := 1) rfl ?_); refine box_event ?hg (N := 1) ?hd (cs := #[.int .i64 a0_0, .int .i64 a0_1, .slice A0_2 l0_2.length c0_2, .slice A0_3 l0_3.length c0_3, .slice A0_4 l0_4.length c0_4, .slice A0_5 l0_5.length c0_5, .slice A0_6 l0_6.length c0_6, .slice A0_7 l0_7.length c0_7, .slice A0_8 l0_8.length c0_8, .slice A0_9 l0_9.length c0_9, .int .i64 a0_10]) (t := 38) ?hr ?_; (case hd => rfl); (case hg => rfl); (case hr => first | (go_simp; done) | (go_simp; rfl)); intro gb389 hg w9 hbox hb; have BK389 := Aside0.mk (hbox); have GW389 := Aside0.mk ((by rw [hg]; exact (bz_ HB.out) : w.heap.size ≤ gb389)); have GE389 := Aside0.mk ((by rw [hg]; exact (bz_ HB.out) : w.heap.size ≤ gb389)); replace HB := Aside0.mk (bs_ HB.out hb); clear hb hbox hg) | ((with_reducible refine gate_dst (N := 2) rfl ?_); refine box_event ?hg (N := 2) ?hd (cs := #[.int .i64 0, .int .i64 0, .slice none 0 0, .slice none 0 0, .slice none 0 0, .slice none 0 0, .slice none 0 0, .slice none 0 0, .slice none 0 0, .slice none 0 0, .int .i64 0]) (t := 38) ?hr ?_; (case hd => rfl); (case hg => rfl); (case hr => first | (go_simp; done) | (go_simp; rfl)); intro gb390 hg w10 hbox hb; have BK390 := Aside0.mk (hbox); have GW390 := Aside0.mk ((by rw [hg]; exact (bz_ HB.out) : w.heap.size ≤ gb390)); have GE390 := Aside0.mk ((by rw [hg]; exact (bz_ HB.out) : w.heap.size ≤ gb390)); replace HB := Aside0.mk (bs_ HB.out hb); have NB389_390 := Aside0.mk ((by rw [hg]; exact Nat.ne_of_lt (bl_ BK389.out) : gb389 ≠ gb390)); have NB390_389 := Aside0.mk ((by rw [hg]; exact Nat.ne_of_gt (bl_ BK389.out) : gb390 ≠ gb389)); replace BK389 := Aside0.mk (bk_ BK389.out hb); clear hb hbox hg))
   have n0_ := Aside0.mk (blk_drew BK389.out)
   have n1_ := Aside0.mk (blk_drew BK390.out)
   have n2_ := Aside0.mk (below_drew1 HB.out)
   clear BK389
   clear BK390
   clear HB
   have BK389 := n0_
   have BK390 := n1_
   have HB := n2_
   clear n0_ n1_ n2_
   refine start_ (n := 27) (S := fun w' => w'.cell? ⟨gb389, 0, none⟩ = some (.int .i64 a0_0) ∧ w'.cell? ⟨gb389, 1, none⟩ = some (.int .i64 a0_1) ∧ w'.cell? ⟨gb389, 2, none⟩ = some (.slice A0_2 l0_2.length c0_2) ∧ w'.cell? ⟨gb389, 3, none⟩ = some (.slice A0_3 l0_3.length c0_3) ∧ w'.cell? ⟨gb389, 4, none⟩ = some (.slice A0_4 l0_4.length c0_4) ∧ w'.cell? ⟨gb389, 5, none⟩ = some (.slice A0_5 l0_5.length c0_5) ∧ w'.cell? ⟨gb389, 6, none⟩ = some (.slice A0_6 l0_6.length c0_6) ∧ w'.cell? ⟨gb389, 7, none⟩ = some (.slice A0_7 l0_7.length c0_7) ∧ w'.cell? ⟨gb389, 8, none⟩ = some (.slice A0_8 l0_8.length c0_8) ∧ w'.cell? ⟨gb389, 9, none⟩ = some (.slice A0_9 l0_9.length c0_9) ∧ w'.cell? ⟨gb389, 10, none⟩ = some (.int .i64 a0_10)) (ds := []) #[false, false, false, false, false, false, false, false, false, false, false, false, false, false, false, false, false, false, false, false, false, false, false, false, false, false, false] (by kernel_rfl) rfl rfl ⟨(blk_cell BK389.out 0).trans rfl, (blk_cell BK389.out 1).trans rfl, (blk_cell BK389.out 2).trans rfl, (blk_cell BK389.out 3).trans rfl, (blk_cell BK389.out 4).trans rfl, (blk_cell BK389.out 5).trans rfl, (blk_cell BK389.out 6).trans rfl, (blk_cell BK389.out 7).trans rfl, (blk_cell BK389.out 8).trans rfl, (blk_cell BK389.out 9).trans rfl, (blk_cell BK389.out 10).trans rfl⟩ (fun hHeld => ?_); refine with_tabW impl_copyNet.tab1 impl_copyNet.bits1 (fun HT_ HW_ => ?_)
   generalize w10.drew = w11 at BK389 BK390 HB hHeld ⊢
   refine pu_ 0 3 (bt_ 27 1) HT_ ?_
   refine pu_ 3 6 (bt_ 27 9) HT_ ?_
   refine pu_ 6 9 (bt_ 27 73) HT_ ?_
   refine pu_ 10 13 (bt_ 27 1097) HT_ ?_
   refine pu_ 14 17 (bt_ 27 17481) HT_ ?_
   refine pu_ 17 20 (bt_ 27 148553) HT_ ?_
   refine pu_ 20 23 (bt_ 27 1197129) HT_ ?_
   refine pu_ 23 26 (bt_ 27 9585737) HT_ ?_
   refine take_ (i := 1) (N := some 4) (v := ?_) (a' := ?_) (bt_ 27 9585739) rfl rfl (take_ofW HT_.out HW_.out (by kernel_rfl)) (fun _ _ _ h => h) (Or.inl ⟨by rfl, ?_⟩) hHeld ?_ ?_
   rotate_left
   ·rintro w' ⟨s0, s1, s2, s3, s4, s5, s6, s7, s8, s9, s10⟩
    go_simp
    with_reducible rfl
   rotate_left
   ·simp only [Act.put, List.setIfInBounds_toArray, List.set_cons_zero, List.set_cons_succ, i64_w, i32_w]
    rfl
   refine take_ (i := 4) (N := some 7) (v := ?_) (a' := ?_) (bt_ 27 9585755) rfl rfl (take_ofW HT_.out HW_.out (by kernel_rfl)) (fun _ _ _ h => h) (Or.inl ⟨by rfl, ?_⟩) hHeld ?_ ?_
   rotate_left
   ·rintro w' ⟨s0, s1, s2, s3, s4, s5, s6, s7, s8, s9, s10⟩
    go_simp
    with_reducible rfl
   rotate_left
   ·simp only [Act.put, List.setIfInBounds_toArray, List.set_cons_zero, List.set_cons_succ, i64_w, i32_w]
    rfl
   refine take_ (i := 7) (N := some 10) (v := ?_) (a' := ?_) (bt_ 27 9585883) rfl rfl (take_ofW HT_.out HW_.out (by kernel_rfl)) (fun _ _ _ h => h) (Or.inl ⟨by rfl, ?_⟩) hHeld ?_ ?_
   rotate_left
   ·rintro w' ⟨s0, s1, s2, s3, s4, s5, s6, s7, s8, s9, s10⟩
    go_simp
    with_reducible rfl
   rotate_left
   ·simp only [Act.put, List.setIfInBounds_toArray, List.set_cons_zero, List.set_cons_succ, i64_w, i32_w]
    rfl
   refine take_ (i := 11) (N := some 14) (v := ?_) (a' := ?_) (bt_ 27 9587931) rfl rfl (take_ofW HT_.out HW_.out (by kernel_rfl)) (fun _ _ _ h => h) (Or.inl ⟨by rfl, ?_⟩) hHeld ?_ ?_
   rotate_left
   ·rintro w' ⟨s0, s1, s2, s3, s4, s5, s6, s7, s8, s9, s10⟩
    go_simp
    with_reducible rfl
   rotate_left
   ·simp only [Act.put, List.setIfInBounds_toArray, List.set_cons_zero, List.set_cons_succ, i64_w, i32_w]
    rfl
   refine take_ (i := 15) (N := some 18) (v := ?_) (a' := ?_) (bt_ 27 9620699) rfl rfl (take_ofW HT_.out HW_.out (by kernel_rfl)) (fun _ _ _ h => h) (Or.inl ⟨by rfl, ?_⟩) hHeld ?_ ?_
   rotate_left
   ·rintro w' ⟨s0, s1, s2, s3, s4, s5, s6, s7, s8, s9, s10⟩
    go_simp
    with_reducible rfl
   rotate_left
   ·simp only [Act.put, List.setIfInBounds_toArray, List.set_cons_zero, List.set_cons_succ, i64_w, i32_w]
    rfl
   refine take_ (i := 18) (N := some 21) (v := ?_) (a' := ?_) (bt_ 27 9882843) rfl rfl (take_ofW HT_.out HW_.out (by kernel_rfl)) (fun _ _ _ h => h) (Or.inl ⟨by rfl, ?_⟩) hHeld ?_ ?_
   rotate_left
   ·rintro w' ⟨s0, s1, s2, s3, s4, s5, s6, s7, s8, s9, s10⟩
    go_simp
    with_reducible rfl
   rotate_left
   ·simp only [Act.put, List.setIfInBounds_toArray, List.set_cons_zero, List.set_cons_succ, i64_w, i32_w]
    rfl
   refine take_ (i := 21) (N := some 24) (v := ?_) (a' := ?_) (bt_ 27 11979995) rfl rfl (take_ofW HT_.out HW_.out (by kernel_rfl)) (fun _ _ _ h => h) (Or.inl ⟨by rfl, ?_⟩) hHeld ?_ ?_
   rotate_left
   ·rintro w' ⟨s0, s1, s2, s3, s4, s5, s6, s7, s8, s9, s10⟩
    go_simp
    with_reducible rfl
   rotate_left
   ·simp only [Act.put, List.setIfInBounds_toArray, List.set_cons_zero, List.set_cons_succ, i64_w, i32_w]
    rfl
   refine take_ (i := 24) (N := some 27) (v := ?_) (a' := ?_) (bt_ 27 28757211) rfl rfl (take_ofW HT_.out HW_.out (by kernel_rfl)) (fun _ _ _ h => h) (Or.inl ⟨by rfl, ?_⟩) hHeld ?_ ?_
   rotate_left
   ·rintro w' ⟨s0, s1, s2, s3, s4, s5, s6, s7, s8, s9, s10⟩
    go_simp
    with_reducible rfl
   rotate_left
   ·simp only [Act.put, List.setIfInBounds_toArray, List.set_cons_zero, List.set_cons_succ, i64_w, i32_w]
    rfl
   have HLE : w.heap.size ≤ w11.heap.size := HB.out.size
   have HLT : gb390 < w11.heap.size := bl_ BK390.out
   refine evsA_ [2, 5, 8, 9, 12, 13, 16, 19, 22] (fun i => match i with | 2 => 2 | 5 => 3 | 8 => 5 | 9 => 6 | 12 => 6 | 13 => 7 | 16 => 7 | 19 => 8 | _ => 9) (fun i => match i with | 9 => 12 | 13 => 16 | _ => 100) (fun v => [(5, v 2), (8, v 5), (11, v 8), (12, v 9), (15, v 12), (16, v 13), (19, v 16), (22, v 19), (25, v 22)]) (fun i => match i with | 2 => Ev.A1 3 w11.heap.size (.int .i64 t391) (.int .i64 t392) t393 | 5 => Ev.A2 3 w11.heap.size t396 t399 | 8 => Ev.S (Kd.slice 79 k79) 61 w11.heap.size t402 | 9 => Ev.R (Kd.int .i64) 3 w11.heap.size y405 | 12 => Ev.R (Kd.int .i64) 3 w11.heap.size y408 | 13 => Ev.R (Kd.int .i64) 3 w11.heap.size y411 | 16 => Ev.R (Kd.int .i64) 3 w11.heap.size y414 | 19 => Ev.S (Kd.slice 79 k79) 61 w11.heap.size t417 | 22 => Ev.S (Kd.slice 79 k79) 61 w11.heap.size t420 | _ => Ev.no) #[true, true, true, true, true, true, true, true, true, true, true, true, true, true, true, true, true, true, true, true, true, true, true, true, true, false, false] 2 rfl (by kernel_rfl) (by simp only [putAll, Act.put, List.setIfInBounds_toArray, List.set_cons_zero, List.set_cons_succ]; first | done | rfl) ?_ (fun w1_ hb_ => ⟨(blk_cell (bk_ BK389.out hb_) 0).trans rfl, (blk_cell (bk_ BK389.out hb_) 1).trans rfl, (blk_cell (bk_ BK389.out hb_) 2).trans rfl, (blk_cell (bk_ BK389.out hb_) 3).trans rfl, (blk_cell (bk_ BK389.out hb_) 4).trans rfl, (blk_cell (bk_ BK389.out hb_) 5).trans rfl, (blk_cell (bk_ BK389.out hb_) 6).trans rfl, (blk_cell (bk_ BK389.out hb_) 7).trans rfl, (blk_cell (bk_ BK389.out hb_) 8).trans rfl, (blk_cell (bk_ BK389.out hb_) 9).trans rfl, (blk_cell (bk_ BK389.out hb_) 10).trans rfl⟩) ?_ ?_
   ·decide
   ·intro i hi
    simp only [List.mem_cons, List.not_mem_nil, or_false] at hi
    rcases hi with rfl | rfl | rfl | rfl | rfl | rfl | rfl | rfl | rfl
    ·refine ⟨_, rfl, fun v x => (by simp only [putAll, Act.put, List.setIfInBounds_toArray, List.set_cons_zero, List.set_cons_succ, Nat.reduceEqDiff, ↓reduceIte]; first | done | rfl), fun T v W hW hBW hc K a1 ha hK => ?_⟩
     simp only [putAll, Act.put, List.setIfInBounds_toArray, List.set_cons_zero, List.set_cons_succ] at ha
     subst ha
     have HBW := Aside0.mk (bs_ HB.out hW)
     refine goes_ Try.func20 (by kernel_rfl) rfl #[.agg #[.int .i64 a0_0, .int .i64 a0_1, .slice A0_2 l0_2.length c0_2]] (by rfl) rfl rfl (by (try simp only [List.map_toArray, List.map_cons, List.map_nil]); first | done | rfl) ?_
     with_reducible refine (impl_copyMesh.calls a0_0 a0_1 _ _ l0_2 t391 t392 t393 _ ?side1 ?side2 A2.out).mono ?_
     (case side1 => exact cb_ HR0_2.out HBW.out)
     (case side2 => exact HC0_2.out)
     rintro e w1 ⟨u_, rfl, h_, hb⟩
     exact ⟨_, rfl, hK _ w1 (bs_ hW hb) hb.size (fun k_ hl_ _ => hb.block k_ hl_) ⟨u_, rfl, (rq_ h_ hBW (fun k_ h1_ h_ => Or.inr h_))⟩⟩
    ·refine ⟨_, rfl, fun v x => (by simp only [putAll, Act.put, List.setIfInBounds_toArray, List.set_cons_zero, List.set_cons_succ, Nat.reduceEqDiff, ↓reduceIte]; first | done | rfl), fun T v W hW hBW hc K a1 ha hK => ?_⟩
     simp only [putAll, Act.put, List.setIfInBounds_toArray, List.set_cons_zero, List.set_cons_succ] at ha
     subst ha
     have HBW := Aside0.mk (bs_ HB.out hW)
     refine goes_ Try.func21 (by kernel_rfl) rfl #[.agg #[.slice A0_3 l0_3.length c0_3, .slice A0_4 l0_4.length c0_4]] (by rfl) rfl rfl (by (try simp only [List.map_toArray, List.map_cons, List.map_nil]); first | done | rfl) ?_
     with_reducible refine (impl_copyClasses.calls _ _ l0_3 _ _ l0_4 t396 t399 _ ?side1 ?side2 ?side3 ?side4 A3.out).mono ?_
     (case side1 => exact cb_ HR0_3.out HBW.out)
     (case side2 => exact HC0_3.out)
     (case side3 => exact cb_ HR0_4.out HBW.out)
     (case side4 => exact HC0_4.out)
     rintro e w1 ⟨u_, u1_, rfl, h_, h1_, hb⟩
     exact ⟨_, rfl, hK _ w1 (bs_ hW hb) hb.size (fun k_ hl_ _ => hb.block k_ hl_) ⟨u_, u1_, rfl, rq_ h_ hBW (fun k_ g_ q_ => ⟨Or.inr q_, g_⟩), rq_ h1_ hBW (fun k_ g_ q_ => ⟨Or.inr q_, g_⟩)⟩⟩
    ·refine ⟨_, rfl, fun v x => (by simp only [putAll, Act.put, List.setIfInBounds_toArray, List.set_cons_zero, List.set_cons_succ, Nat.reduceEqDiff, ↓reduceIte]; first | done | rfl), fun T v W hW hBW hc K a1 ha hK => ?_⟩
     simp only [putAll, Act.put, List.setIfInBounds_toArray, List.set_cons_zero, List.set_cons_succ] at ha
     subst ha
     have HBW := Aside0.mk (bs_ HB.out hW)
     refine goes_ Try.func37 (by kernel_rfl) rfl #[.slice A0_5 l0_5.length c0_5] (by rfl) rfl rfl (by (try simp only [List.map_toArray, List.map_cons, List.map_nil]); first | done | rfl) ?_
     with_reducible refine (impl_copyLists.calls k _ _ l0_5 t402 _ ?side1 ?side2 A4.out).mono ?_
     (case side1 => exact cb_ HR0_5.out HBW.out)
     (case side2 => exact HC0_5.out)
     rintro e w1 ⟨u_, rfl, h_, hb⟩
     exact ⟨_, rfl, hK _ w1 (bs_ hW hb) hb.size (fun k_ hl_ _ => hb.block k_ hl_) (sqq_ h_ hBW (fun k_ g_ q_ => Or.inr q_))⟩
    ·refine ⟨_, rfl, fun v x => (by simp only [putAll, Act.put, List.setIfInBounds_toArray, List.set_cons_zero, List.set_cons_succ, Nat.reduceEqDiff, ↓reduceIte]; first | done | rfl), fun T v W hW hBW hc K a1 ha hK => ?_⟩
     simp only [putAll, Act.put, List.setIfInBounds_toArray, List.set_cons_zero, List.set_cons_succ] at ha
     subst ha
     have HBW := Aside0.mk (bs_ HB.out hW)
     refine Kd.R_lit_step (Kd.int .i64) _ 3 ?hg (N := 12) ?hd (xs := ([] : List Int)) (inner := []) (ok := fun _ => True) (okp := fun _ => True) ?hr ?hp (fun _ hk => hk) trivial (Below.refl _ _) (Nat.le_refl _) (by simp) ?_; (case hd => rfl); (case hg => rfl); (case hr => first | (go_simp; done) | (go_simp; rfl)); (case hp => exact (Reps.none _ _))
     intro x_ w1 h_ hb _ _
     rw [← Ny405.out] at h_
     exact hK _ w1 (bs_ hW hb) hb.size (fun k_ hl_ _ => hb.block k_ hl_) (rq_ h_ hBW (fun k_ h1_ h_ => Or.inr h_))
    ·refine ⟨_, rfl, fun v x => (by simp only [putAll, Act.put, List.setIfInBounds_toArray, List.set_cons_zero, List.set_cons_succ, Nat.reduceEqDiff, ↓reduceIte]; first | done | rfl), fun T v W hW hBW hc K a1 ha hK => ?_⟩
     simp only [putAll, Act.put, List.setIfInBounds_toArray, List.set_cons_zero, List.set_cons_succ] at ha
     subst ha
     have HBW := Aside0.mk (bs_ HB.out hW)
     have HV := hc 9 (by decide) rfl
     refine Kd.R_append_rows_step (Kd.int .i64) (w0 := w11) w11.heap.size (by rfl) (.tmp 12) (.tmp 14) 26 3 (.int .i64 0) 8 rfl Try.underlying26 info3 rfl (by decide) (by omega) (v 9) y405 l0_6 _ _ _ (fun k_ => T k_ = 6 ∨ W.heap.size ≤ k_) (fun _ => False) rfl rfl ?aO ?aR (fun _ _ h => h) (fun _ h => h.elim) ?aF ?aB ?aS ?aL ?_
     (case aR => exact cb_ HR0_6.out HBW.out)
     (case aB => exact hW)
     (case aF => exact fun k_ h_ => Or.inr (by omega))
     (case aO => exact Kd.R_mono HV (fun k_ h_ => Or.inl h_))
     (case aS => exact hBW)
     (case aL => have := LMc5.out; omega)
     intro x_ w1 h_ hb hg _
     rw [← Ny408.out] at h_
     exact hK _ w1 hb hg.size (fun k_ hl_ ht_ => hg.block k_ hl_ (fun e_ => ht_ (HV.1 k_ e_.symm))) (Kd.R_mono (Kd.R_bound h_) (fun k_ q_ => q_.1.elim Or.inl (fun z_ => Or.inr ⟨z_, q_.2.2.1⟩)))
    ·refine ⟨_, rfl, fun v x => (by simp only [putAll, Act.put, List.setIfInBounds_toArray, List.set_cons_zero, List.set_cons_succ, Nat.reduceEqDiff, ↓reduceIte]; first | done | rfl), fun T v W hW hBW hc K a1 ha hK => ?_⟩
     simp only [putAll, Act.put, List.setIfInBounds_toArray, List.set_cons_zero, List.set_cons_succ] at ha
     subst ha
     have HBW := Aside0.mk (bs_ HB.out hW)
     refine Kd.R_lit_step (Kd.int .i64) _ 3 ?hg (N := 16) ?hd (xs := ([] : List Int)) (inner := []) (ok := fun _ => True) (okp := fun _ => True) ?hr ?hp (fun _ hk => hk) trivial (Below.refl _ _) (Nat.le_refl _) (by simp) ?_; (case hd => rfl); (case hg => rfl); (case hr => first | (go_simp; done) | (go_simp; rfl)); (case hp => exact (Reps.none _ _))
     intro x_ w1 h_ hb _ _
     rw [← Ny411.out] at h_
     exact hK _ w1 (bs_ hW hb) hb.size (fun k_ hl_ _ => hb.block k_ hl_) (rq_ h_ hBW (fun k_ h1_ h_ => Or.inr h_))
    ·refine ⟨_, rfl, fun v x => (by simp only [putAll, Act.put, List.setIfInBounds_toArray, List.set_cons_zero, List.set_cons_succ, Nat.reduceEqDiff, ↓reduceIte]; first | done | rfl), fun T v W hW hBW hc K a1 ha hK => ?_⟩
     simp only [putAll, Act.put, List.setIfInBounds_toArray, List.set_cons_zero, List.set_cons_succ] at ha
     subst ha
     have HBW := Aside0.mk (bs_ HB.out hW)
     have HV := hc 13 (by decide) rfl
     refine Kd.R_append_rows_step (Kd.int .i64) (w0 := w11) w11.heap.size (by rfl) (.tmp 16) (.tmp 18) 26 3 (.int .i64 0) 8 rfl Try.underlying26 info3 rfl (by decide) (by omega) (v 13) y411 l0_7 _ _ _ (fun k_ => T k_ = 7 ∨ W.heap.size ≤ k_) (fun _ => False) rfl rfl ?aO ?aR (fun _ _ h => h) (fun _ h => h.elim) ?aF ?aB ?aS ?aL ?_
     (case aR => exact cb_ HR0_7.out HBW.out)
     (case aB => exact hW)
     (case aF => exact fun k_ h_ => Or.inr (by omega))
     (case aO => exact Kd.R_mono HV (fun k_ h_ => Or.inl h_))
     (case aS => exact hBW)
     (case aL => have := LMc6.out; omega)
     intro x_ w1 h_ hb hg _
     rw [← Ny414.out] at h_
     exact hK _ w1 hb hg.size (fun k_ hl_ ht_ => hg.block k_ hl_ (fun e_ => ht_ (HV.1 k_ e_.symm))) (Kd.R_mono (Kd.R_bound h_) (fun k_ q_ => q_.1.elim Or.inl (fun z_ => Or.inr ⟨z_, q_.2.2.1⟩)))
    ·refine ⟨_, rfl, fun v x => (by simp only [putAll, Act.put, List.setIfInBounds_toArray, List.set_cons_zero, List.set_cons_succ, Nat.reduceEqDiff, ↓reduceIte]; first | done | rfl), fun T v W hW hBW hc K a1 ha hK => ?_⟩
     simp only [putAll, Act.put, List.setIfInBounds_toArray, List.set_cons_zero, List.set_cons_succ] at ha
     subst ha
     have HBW := Aside0.mk (bs_ HB.out hW)
     refine goes_ Try.func37 (by kernel_rfl) rfl #[.slice A0_8 l0_8.length c0_8] (by rfl) rfl rfl (by (try simp only [List.map_toArray, List.map_cons, List.map_nil]); first | done | rfl) ?_
     with_reducible refine (impl_copyLists.calls k _ _ l0_8 t417 _ ?side1 ?side2 A7.out).mono ?_
     (case side1 => exact cb_ HR0_8.out HBW.out)
     (case side2 => exact HC0_8.out)
     rintro e w1 ⟨u_, rfl, h_, hb⟩
     exact ⟨_, rfl, hK _ w1 (bs_ hW hb) hb.size (fun k_ hl_ _ => hb.block k_ hl_) (sqq_ h_ hBW (fun k_ g_ q_ => Or.inr q_))⟩
    ·refine ⟨_, rfl, fun v x => (by simp only [putAll, Act.put, List.setIfInBounds_toArray, List.set_cons_zero, List.set_cons_succ, Nat.reduceEqDiff, ↓reduceIte]; first | done | rfl), fun T v W hW hBW hc K a1 ha hK => ?_⟩
     simp only [putAll, Act.put, List.setIfInBounds_toArray, List.set_cons_zero, List.set_cons_succ] at ha
     subst ha
     have HBW := Aside0.mk (bs_ HB.out hW)
     refine goes_ Try.func37 (by kernel_rfl) rfl #[.slice A0_9 l0_9.length c0_9] (by rfl) rfl rfl (by (try simp only [List.map_toArray, List.map_cons, List.map_nil]); first | done | rfl) ?_
     with_reducible refine (impl_copyLists.calls k _ _ l0_9 t420 _ ?side1 ?side2 A8.out).mono ?_
     (case side1 => exact cb_ HR0_9.out HBW.out)
     (case side2 => exact HC0_9.out)
     rintro e w1 ⟨u_, rfl, h_, hb⟩
     exact ⟨_, rfl, hK _ w1 (bs_ hW hb) hb.size (fun k_ hl_ _ => hb.block k_ hl_) (sqq_ h_ hBW (fun k_ g_ q_ => Or.inr q_))⟩
   intro T_ v w23 hHeld hW hT_ hF
   obtain ⟨u2, e2, F2⟩ := hF 2 (by decide) (by decide)
   obtain ⟨u3, u4, e3, F3, F4⟩ := hF 5 (by decide) (by decide)
   have F5 := hF 8 (by decide) (by decide)
   have F6 := hF 12 (by decide) (by decide)
   have F7 := hF 16 (by decide) (by decide)
   have F8 := hF 19 (by decide) (by decide)
   have F9 := hF 22 (by decide) (by decide)
   obtain ⟨u5, e5⟩ : ∃ u_, v 8 = u_ := ⟨_, rfl⟩
   obtain ⟨u6, e6⟩ : ∃ u_, v 12 = u_ := ⟨_, rfl⟩
   obtain ⟨u7, e7⟩ : ∃ u_, v 16 = u_ := ⟨_, rfl⟩
   obtain ⟨u8, e8⟩ : ∃ u_, v 19 = u_ := ⟨_, rfl⟩
   obtain ⟨u9, e9⟩ : ∃ u_, v 22 = u_ := ⟨_, rfl⟩
   obtain ⟨u10, e10⟩ : ∃ u_, v 9 = u_ := ⟨_, rfl⟩
   obtain ⟨u11, e11⟩ : ∃ u_, v 13 = u_ := ⟨_, rfl⟩
   replace F5 : (Ev.S (Kd.slice 79 k79) 61 w11.heap.size t402).F (fun k => T_ k = 5) u5 w23 := by have := F5; rw [e5] at this; exact this
   replace F6 : (Ev.R (Kd.int .i64) 3 w11.heap.size y408).F (fun k => T_ k = 6) u6 w23 := by have := F6; rw [e6] at this; exact this
   replace F7 : (Ev.R (Kd.int .i64) 3 w11.heap.size y414).F (fun k => T_ k = 7) u7 w23 := by have := F7; rw [e7] at this; exact this
   replace F8 : (Ev.S (Kd.slice 79 k79) 61 w11.heap.size t417).F (fun k => T_ k = 8) u8 w23 := by have := F8; rw [e8] at this; exact this
   replace F9 : (Ev.S (Kd.slice 79 k79) 61 w11.heap.size t420).F (fun k => T_ k = 9) u9 w23 := by have := F9; rw [e9] at this; exact this
   obtain ⟨TT, hM⟩ := marks_tag (fun k h => hT_ k h) F2 F3 F4 F5 F6 F7 F8 F9
   refine norm_ (a' := ?_) ?_ ?_
   rotate_left
   ·simp only [putAll, Act.put, List.setIfInBounds_toArray, List.set_cons_zero, List.set_cons_succ, e2, e3, e5, e6, e7, e8, e9, e10, e11]
    rfl
   clear e2 e3 e5 e6 e7 e8 e9 e10 e11 F2 F3 F4 F5 F6 F7 F8 F9 hF
   have HM := Aside0.mk hM
   clear hM
   obtain ⟨Ao31, co31, e_⟩ := Kd.R_slice HM.out.h2
   subst e_
   obtain ⟨Ao30, co30, e_⟩ := Kd.R_slice HM.out.h3
   subst e_
   obtain ⟨Ao29, co29, e_⟩ := Kd.R_slice HM.out.h4
   subst e_
   obtain ⟨Ao28, co28, e_⟩ := Kd.S_slice HM.out.h5
   subst e_
   obtain ⟨Ao27, co27, e_⟩ := Kd.R_slice HM.out.h6
   subst e_
   obtain ⟨Ao26, co26, e_⟩ := Kd.R_slice HM.out.h7
   subst e_
   obtain ⟨Ao25, co25, e_⟩ := Kd.S_slice HM.out.h8
   subst e_
   obtain ⟨Ao24, co24, e_⟩ := Kd.S_slice HM.out.h9
   subst e_
   replace BK389 := Aside0.mk (bk_ BK389.out hW)
   replace BK390 := Aside0.mk (bk_ BK390.out hW)
   replace HB := Aside0.mk (bs_ HB.out hW)
   have HG2 := Aside0.mk (show TT gb390 = 0 from Classical.byContradiction fun h_ => absurd (HM.out.lo _ h_) (Nat.not_le.2 HLT))
   refine pu_ 25 28 (bt_ 27 67108863) HT_ ?_
   refine one_ (i := 26) (N := none) (bt_ 27 134217727) rfl rfl (one_of HT_.out (by kernel_rfl)) (by decide) (fun K hK => ?_)
   have hs32 : w23.cell? ⟨gb390, 0, none⟩ = some (.int .i64 0) := (blk_cell BK390.out 0).trans rfl
   have hfs32 := blk_frozen BK390.out 0
   have hns32_0 := NB389_390.out
   have hms32_0 := NB390_389.out
   have hs33 : w23.cell? ⟨gb390, 1, none⟩ = some (.int .i64 0) := (blk_cell BK390.out 1).trans rfl
   have hfs33 := blk_frozen BK390.out 1
   have hns33_0 := NB389_390.out
   have hms33_0 := NB390_389.out
   have hs34 : w23.cell? ⟨gb390, 2, none⟩ = some (.slice none 0 0) := (blk_cell BK390.out 2).trans rfl
   have hfs34 := blk_frozen BK390.out 2
   have hns34_0 := NB389_390.out
   have hms34_0 := NB390_389.out
   have hs35 : w23.cell? ⟨gb390, 3, none⟩ = some (.slice none 0 0) := (blk_cell BK390.out 3).trans rfl
   have hfs35 := blk_frozen BK390.out 3
   have hns35_0 := NB389_390.out
   have hms35_0 := NB390_389.out
   have hs36 : w23.cell? ⟨gb390, 4, none⟩ = some (.slice none 0 0) := (blk_cell BK390.out 4).trans rfl
   have hfs36 := blk_frozen BK390.out 4
   have hns36_0 := NB389_390.out
   have hms36_0 := NB390_389.out
   have hs37 : w23.cell? ⟨gb390, 5, none⟩ = some (.slice none 0 0) := (blk_cell BK390.out 5).trans rfl
   have hfs37 := blk_frozen BK390.out 5
   have hns37_0 := NB389_390.out
   have hms37_0 := NB390_389.out
   have hs38 : w23.cell? ⟨gb390, 6, none⟩ = some (.slice none 0 0) := (blk_cell BK390.out 6).trans rfl
   have hfs38 := blk_frozen BK390.out 6
   have hns38_0 := NB389_390.out
   have hms38_0 := NB390_389.out
   have hs39 : w23.cell? ⟨gb390, 7, none⟩ = some (.slice none 0 0) := (blk_cell BK390.out 7).trans rfl
   have hfs39 := blk_frozen BK390.out 7
   have hns39_0 := NB389_390.out
   have hms39_0 := NB390_389.out
   have hs40 : w23.cell? ⟨gb390, 8, none⟩ = some (.slice none 0 0) := (blk_cell BK390.out 8).trans rfl
   have hfs40 := blk_frozen BK390.out 8
   have hns40_0 := NB389_390.out
   have hms40_0 := NB390_389.out
   have hs41 : w23.cell? ⟨gb390, 9, none⟩ = some (.slice none 0 0) := (blk_cell BK390.out 9).trans rfl
   have hfs41 := blk_frozen BK390.out 9
   have hns41_0 := NB389_390.out
   have hms41_0 := NB390_389.out
   have hs42 : w23.cell? ⟨gb390, 10, none⟩ = some (.int .i64 0) := (blk_cell BK390.out 10).trans rfl
   have hfs42 := blk_frozen BK390.out 10
   have hns42_0 := NB389_390.out
   have hms42_0 := NB390_389.out
   refine skip_ (w1 := ?_) (by rfl) rfl ?_ ?_
   rotate_left
   ·go_simp
    rfl
   refine hK.out _ _ ⟨((cell_far (p := ⟨gb390, _, none⟩) NB389_390.out _).trans (((cell_far (p := ⟨gb390, _, none⟩) NB389_390.out _).trans (((cell_far (p := ⟨gb390, _, none⟩) NB389_390.out _).trans (((cell_far (p := ⟨gb390, _, none⟩) NB389_390.out _).trans (((cell_far (p := ⟨gb390, _, none⟩) NB389_390.out _).trans (((cell_far (p := ⟨gb390, _, none⟩) NB389_390.out _).trans (((cell_far (p := ⟨gb390, _, none⟩) NB389_390.out _).trans (((cell_far (p := ⟨gb390, _, none⟩) NB389_390.out _).trans (((cell_far (p := ⟨gb390, _, none⟩) NB389_390.out _).trans (((cell_far (p := ⟨gb390, _, none⟩) NB389_390.out _).trans (((cell_far (p := ⟨gb390, _, none⟩) NB389_390.out _).trans (hHeld.1)))))))))))))))))))))), ((cell_far (p := ⟨gb390, _, none⟩) NB389_390.out _).trans (((cell_far (p := ⟨gb390, _, none⟩) NB389_390.out _).trans (((cell_far (p := ⟨gb390, _, none⟩) NB389_390.out _).trans (((cell_far (p := ⟨gb390, _, none⟩) NB389_390.out _).trans (((cell_far (p := ⟨gb390, _, none⟩) NB389_390.out _).trans (((cell_far (p := ⟨gb390, _, none⟩) NB389_390.out _).trans (((cell_far (p := ⟨gb390, _, none⟩) NB389_390.out _).trans (((cell_far (p := ⟨gb390, _, none⟩) NB389_390.out _).trans (((cell_far (p := ⟨gb390, _, none⟩) NB389_390.out _).trans (((cell_far (p := ⟨gb390, _, none⟩) NB389_390.out _).trans (((cell_far (p := ⟨gb390, _, none⟩) NB389_390.out _).trans (hHeld.2.1)))))))))))))))))))))), ((cell_far (p := ⟨gb390, _, none⟩) NB389_390.out _).trans (((cell_far (p := ⟨gb390, _, none⟩) NB389_390.out _).trans (((cell_far (p := ⟨gb390, _, none⟩) NB389_390.out _).trans (((cell_far (p := ⟨gb390, _, none⟩) NB389_390.out _).trans (((cell_far (p := ⟨gb390, _, none⟩) NB389_390.out _).trans (((cell_far (p := ⟨gb390, _, none⟩) NB389_390.out _).trans (((cell_far (p := ⟨gb390, _, none⟩) NB389_390.out _).trans (((cell_far (p := ⟨gb390, _, none⟩) NB389_390.out _).trans (((cell_far (p := ⟨gb390, _, none⟩) NB389_390.out _).trans (((cell_far (p := ⟨gb390, _, none⟩) NB389_390.out _).trans (((cell_far (p := ⟨gb390, _, none⟩) NB389_390.out _).trans (hHeld.2.2.1)))))))))))))))))))))), ((cell_far (p := ⟨gb390, _, none⟩) NB389_390.out _).trans (((cell_far (p := ⟨gb390, _, none⟩) NB389_390.out _).trans (((cell_far (p := ⟨gb390, _, none⟩) NB389_390.out _).trans (((cell_far (p := ⟨gb390, _, none⟩) NB389_390.out _).trans (((cell_far (p := ⟨gb390, _, none⟩) NB389_390.out _).trans (((cell_far (p := ⟨gb390, _, none⟩) NB389_390.out _).trans (((cell_far (p := ⟨gb390, _, none⟩) NB389_390.out _).trans (((cell_far (p := ⟨gb390, _, none⟩) NB389_390.out _).trans (((cell_far (p := ⟨gb390, _, none⟩) NB389_390.out _).trans (((cell_far (p := ⟨gb390, _, none⟩) NB389_390.out _).trans (((cell_far (p := ⟨gb390, _, none⟩) NB389_390.out _).trans (hHeld.2.2.2.1)))))))))))))))))))))), ((cell_far (p := ⟨gb390, _, none⟩) NB389_390.out _).trans (((cell_far (p := ⟨gb390, _, none⟩) NB389_390.out _).trans (((cell_far (p := ⟨gb390, _, none⟩) NB389_390.out _).trans (((cell_far (p := ⟨gb390, _, none⟩) NB389_390.out _).trans (((cell_far (p := ⟨gb390, _, none⟩) NB389_390.out _).trans (((cell_far (p := ⟨gb390, _, none⟩) NB389_390.out _).trans (((cell_far (p := ⟨gb390, _, none⟩) NB389_390.out _).trans (((cell_far (p := ⟨gb390, _, none⟩) NB389_390.out _).trans (((cell_far (p := ⟨gb390, _, none⟩) NB389_390.out _).trans (((cell_far (p := ⟨gb390, _, none⟩) NB389_390.out _).trans (((cell_far (p := ⟨gb390, _, none⟩) NB389_390.out _).trans (hHeld.2.2.2.2.1)))))))))))))))))))))), ((cell_far (p := ⟨gb390, _, none⟩) NB389_390.out _).trans (((cell_far (p := ⟨gb390, _, none⟩) NB389_390.out _).trans (((cell_far (p := ⟨gb390, _, none⟩) NB389_390.out _).trans (((cell_far (p := ⟨gb390, _, none⟩) NB389_390.out _).trans (((cell_far (p := ⟨gb390, _, none⟩) NB389_390.out _).trans (((cell_far (p := ⟨gb390, _, none⟩) NB389_390.out _).trans (((cell_far (p := ⟨gb390, _, none⟩) NB389_390.out _).trans (((cell_far (p := ⟨gb390, _, none⟩) NB389_390.out _).trans (((cell_far (p := ⟨gb390, _, none⟩) NB389_390.out _).trans (((cell_far (p := ⟨gb390, _, none⟩) NB389_390.out _).trans (((cell_far (p := ⟨gb390, _, none⟩) NB389_390.out _).trans (hHeld.2.2.2.2.2.1)))))))))))))))))))))), ((cell_far (p := ⟨gb390, _, none⟩) NB389_390.out _).trans (((cell_far (p := ⟨gb390, _, none⟩) NB389_390.out _).trans (((cell_far (p := ⟨gb390, _, none⟩) NB389_390.out _).trans (((cell_far (p := ⟨gb390, _, none⟩) NB389_390.out _).trans (((cell_far (p := ⟨gb390, _, none⟩) NB389_390.out _).trans (((cell_far (p := ⟨gb390, _, none⟩) NB389_390.out _).trans (((cell_far (p := ⟨gb390, _, none⟩) NB389_390.out _).trans (((cell_far (p := ⟨gb390, _, none⟩) NB389_390.out _).trans (((cell_far (p := ⟨gb390, _, none⟩) NB389_390.out _).trans (((cell_far (p := ⟨gb390, _, none⟩) NB389_390.out _).trans (((cell_far (p := ⟨gb390, _, none⟩) NB389_390.out _).trans (hHeld.2.2.2.2.2.2.1)))))))))))))))))))))), ((cell_far (p := ⟨gb390, _, none⟩) NB389_390.out _).trans (((cell_far (p := ⟨gb390, _, none⟩) NB389_390.out _).trans (((cell_far (p := ⟨gb390, _, none⟩) NB389_390.out _).trans (((cell_far (p := ⟨gb390, _, none⟩) NB389_390.out _).trans (((cell_far (p := ⟨gb390, _, none⟩) NB389_390.out _).trans (((cell_far (p := ⟨gb390, _, none⟩) NB389_390.out _).trans (((cell_far (p := ⟨gb390, _, none⟩) NB389_390.out _).trans (((cell_far (p := ⟨gb390, _, none⟩) NB389_390.out _).trans (((cell_far (p := ⟨gb390, _, none⟩) NB389_390.out _).trans (((cell_far (p := ⟨gb390, _, none⟩) NB389_390.out _).trans (((cell_far (p := ⟨gb390, _, none⟩) NB389_390.out _).trans (hHeld.2.2.2.2.2.2.2.1)))))))))))))))))))))), ((cell_far (p := ⟨gb390, _, none⟩) NB389_390.out _).trans (((cell_far (p := ⟨gb390, _, none⟩) NB389_390.out _).trans (((cell_far (p := ⟨gb390, _, none⟩) NB389_390.out _).trans (((cell_far (p := ⟨gb390, _, none⟩) NB389_390.out _).trans (((cell_far (p := ⟨gb390, _, none⟩) NB389_390.out _).trans (((cell_far (p := ⟨gb390, _, none⟩) NB389_390.out _).trans (((cell_far (p := ⟨gb390, _, none⟩) NB389_390.out _).trans (((cell_far (p := ⟨gb390, _, none⟩) NB389_390.out _).trans (((cell_far (p := ⟨gb390, _, none⟩) NB389_390.out _).trans (((cell_far (p := ⟨gb390, _, none⟩) NB389_390.out _).trans (((cell_far (p := ⟨gb390, _, none⟩) NB389_390.out _).trans (hHeld.2.2.2.2.2.2.2.2.1)))))))))))))))))))))), ((cell_far (p := ⟨gb390, _, none⟩) NB389_390.out _).trans (((cell_far (p := ⟨gb390, _, none⟩) NB389_390.out _).trans (((cell_far (p := ⟨gb390, _, none⟩) NB389_390.out _).trans (((cell_far (p := ⟨gb390, _, none⟩) NB389_390.out _).trans (((cell_far (p := ⟨gb390, _, none⟩) NB389_390.out _).trans (((cell_far (p := ⟨gb390, _, none⟩) NB389_390.out _).trans (((cell_far (p := ⟨gb390, _, none⟩) NB389_390.out _).trans (((cell_far (p := ⟨gb390, _, none⟩) NB389_390.out _).trans (((cell_far (p := ⟨gb390, _, none⟩) NB389_390.out _).trans (((cell_far (p := ⟨gb390, _, none⟩) NB389_390.out _).trans (((cell_far (p := ⟨gb390, _, none⟩) NB389_390.out _).trans (hHeld.2.2.2.2.2.2.2.2.2.1)))))))))))))))))))))), ((cell_far (p := ⟨gb390, _, none⟩) NB389_390.out _).trans (((cell_far (p := ⟨gb390, _, none⟩) NB389_390.out _).trans (((cell_far (p := ⟨gb390, _, none⟩) NB389_390.out _).trans (((cell_far (p := ⟨gb390, _, none⟩) NB389_390.out _).trans (((cell_far (p := ⟨gb390, _, none⟩) NB389_390.out _).trans (((cell_far (p := ⟨gb390, _, none⟩) NB389_390.out _).trans (((cell_far (p := ⟨gb390, _, none⟩) NB389_390.out _).trans (((cell_far (p := ⟨gb390, _, none⟩) NB389_390.out _).trans (((cell_far (p := ⟨gb390, _, none⟩) NB389_390.out _).trans (((cell_far (p := ⟨gb390, _, none⟩) NB389_390.out _).trans (((cell_far (p := ⟨gb390, _, none⟩) NB389_390.out _).trans (hHeld.2.2.2.2.2.2.2.2.2.2))))))))))))))))))))))⟩ (fun hHeld => ?_)
   clear hK K
   refine done_ (done_of HT_.out (by kernel_rfl)) ?_
   try go_wp2
   refine bodyPost_ret (results_cell_row rfl _ _ gb390 38 #[.int .i64 t391, .int .i64 t392, .slice Ao31 t393.length co31, .slice Ao30 t396.length co30, .slice Ao29 t399.length co29, .slice Ao28 t402.length co28, .slice Ao27 y408.length co27, .slice Ao26 y414.length co26, .slice Ao25 t417.length co25, .slice Ao24 t420.length co24, .int .i64 a0_10] (0, 0) _ rfl (by (with_reducible repeat (first | refine blk_drewN ?_ _ | refine blk_drew ?_ | refine blk_alloc ?_ _)); refine blk_put (cs := #[.int .i64 t391, .int .i64 t392, .slice Ao31 t393.length co31, .slice Ao30 t396.length co30, .slice Ao29 t399.length co29, .slice Ao28 t402.length co28, .slice Ao27 y408.length co27, .slice Ao26 y414.length co26, .slice Ao25 t417.length co25, .slice Ao24 t420.length co24, .int .i64 0]) ?_ 10 _ rfl; (with_reducible repeat (first | refine blk_drewN ?_ _ | refine blk_drew ?_ | refine blk_alloc ?_ _)); refine blk_put (cs := #[.int .i64 t391, .int .i64 t392, .slice Ao31 t393.length co31, .slice Ao30 t396.length co30, .slice Ao29 t399.length co29, .slice Ao28 t402.length co28, .slice Ao27 y408.length co27, .slice Ao26 y414.length co26, .slice Ao25 t417.length co25, .slice none 0 0, .int .i64 0]) ?_ 9 _ rfl; (with_reducible repeat (first | refine blk_drewN ?_ _ | refine blk_drew ?_ | refine blk_alloc ?_ _)); refine blk_put (cs := #[.int .i64 t391, .int .i64 t392, .slice Ao31 t393.length co31, .slice Ao30 t396.length co30, .slice Ao29 t399.length co29, .slice Ao28 t402.length co28, .slice Ao27 y408.length co27, .slice Ao26 y414.length co26, .slice none 0 0, .slice none 0 0, .int .i64 0]) ?_ 8 _ rfl; (with_reducible repeat (first | refine blk_drewN ?_ _ | refine blk_drew ?_ | refine blk_alloc ?_ _)); refine blk_put (cs := #[.int .i64 t391, .int .i64 t392, .slice Ao31 t393.length co31, .slice Ao30 t396.length co30, .slice Ao29 t399.length co29, .slice Ao28 t402.length co28, .slice Ao27 y408.length co27, .slice none 0 0, .slice none 0 0, .slice none 0 0, .int .i64 0]) ?_ 7 _ rfl; (with_reducible repeat (first | refine blk_drewN ?_ _ | refine blk_drew ?_ | refine blk_alloc ?_ _)); refine blk_put (cs := #[.int .i64 t391, .int .i64 t392, .slice Ao31 t393.length co31, .slice Ao30 t396.length co30, .slice Ao29 t399.length co29, .slice Ao28 t402.length co28, .slice none 0 0, .slice none 0 0, .slice none 0 0, .slice none 0 0, .int .i64 0]) ?_ 6 _ rfl; (with_reducible repeat (first | refine blk_drewN ?_ _ | refine blk_drew ?_ | refine blk_alloc ?_ _)); refine blk_put (cs := #[.int .i64 t391, .int .i64 t392, .slice Ao31 t393.length co31, .slice Ao30 t396.length co30, .slice Ao29 t399.length co29, .slice none 0 0, .slice none 0 0, .slice none 0 0, .slice none 0 0, .slice none 0 0, .int .i64 0]) ?_ 5 _ rfl; (with_reducible repeat (first | refine blk_drewN ?_ _ | refine blk_drew ?_ | refine blk_alloc ?_ _)); refine blk_put (cs := #[.int .i64 t391, .int .i64 t392, .slice Ao31 t393.length co31, .slice Ao30 t396.length co30, .slice none 0 0, .slice none 0 0, .slice none 0 0, .slice none 0 0, .slice none 0 0, .slice none 0 0, .int .i64 0]) ?_ 4 _ rfl; (with_reducible repeat (first | refine blk_drewN ?_ _ | refine blk_drew ?_ | refine blk_alloc ?_ _)); refine blk_put (cs := #[.int .i64 t391, .int .i64 t392, .slice Ao31 t393.length co31, .slice none 0 0, .slice none 0 0, .slice none 0 0, .slice none 0 0, .slice none 0 0, .slice none 0 0, .slice none 0 0, .int .i64 0]) ?_ 3 _ rfl; (with_reducible repeat (first | refine blk_drewN ?_ _ | refine blk_drew ?_ | refine blk_alloc ?_ _)); refine blk_put (cs := #[.int .i64 t391, .int .i64 t392, .slice none 0 0, .slice none 0 0, .slice none 0 0, .slice none 0 0, .slice none 0 0, .slice none 0 0, .slice none 0 0, .slice none 0 0, .int .i64 0]) ?_ 2 _ rfl; (with_reducible repeat (first | refine blk_drewN ?_ _ | refine blk_drew ?_ | refine blk_alloc ?_ _)); refine blk_put (cs := #[.int .i64 t391, .int .i64 0, .slice none 0 0, .slice none 0 0, .slice none 0 0, .slice none 0 0, .slice none 0 0, .slice none 0 0, .slice none 0 0, .slice none 0 0, .int .i64 0]) ?_ 1 _ rfl; (with_reducible repeat (first | refine blk_drewN ?_ _ | refine blk_drew ?_ | refine blk_alloc ?_ _)); refine blk_put (cs := #[.int .i64 0, .int .i64 0, .slice none 0 0, .slice none 0 0, .slice none 0 0, .slice none 0 0, .slice none 0 0, .slice none 0 0, .slice none 0 0, .slice none 0 0, .int .i64 0]) ?_ 0 _ rfl; (with_reducible repeat (first | refine blk_drewN ?_ _ | refine blk_drew ?_ | refine blk_alloc ?_ _)); exact BK390.out) Try.underlying38 rfl (by kernel_rfl)) rfl ?_
   exact ⟨TT, _, _, _, _, _, _, _, _, fin_, Marks.lower (Marks.move HM.out (fun k_ h_ => by (repeat rw [Below.heap_setCell _ _ _ _ (show k_ ≠ gb390 from fun e_ => h_ (e_ ▸ HG2.out))])) (by simp only [World.setCell, Array.size_modify]; exact Nat.le_refl _)) HLE, bb_ HB.out⟩
  ·rw [if_neg c6] at H
   exact absurd H (by simp)
 ·rw [if_neg c5] at H
  exact absurd H (by simp)
end Go.Proofs.Ytchhgfgebomegaa.PFnSends
-- thin
