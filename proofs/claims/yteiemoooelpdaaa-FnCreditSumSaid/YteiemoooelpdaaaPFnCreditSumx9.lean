
import Derived.Test.YteiemoooelpdaaaPFnCreditSumx0
import Derived.Test.YteiemoooelpdaaaPFnCreditSumx1
import Derived.Test.YteiemoooelpdaaaPFnCreditSumx7
import Derived.Test.YteiemoooelpdaaaPFnCreditSumx8
namespace Go.Proofs.Yteiemoooelpdaaa.PFnCreditSum
open Go.RowKit Go.Proofs.YteiemoooelpdaaaW.PrintWords Go.Proofs.YteiemoooelpdaaaW.PrintLast Go.Proofs.YteiemoooelpdaaaW.PrintMore
attribute [local go_sem] max2_int min2_int max_two min_two max_three min_three max_four min_four
set_option linter.unusedVariables false
set_option maxHeartbeats 8000000
set_option maxRecDepth 100000
set_option linter.unusedSimpArgs false
structure Marks (T : Nat → Nat) (B : Nat) (w : World) (v2 v3 v4 v5 v6 v7 v8 v9 : Value) (l2 l3 l4 : List Int) (l5 : List (List S72)) (l6 l7 : List Int) (l8 l9 : List (List S72)) : Prop where
 lo : ∀ k, T k ≠ 0 → B ≤ k
 hi : ∀ k, T k ≠ 0 → k < w.heap.size
 h2 : Kd.R (Kd.int .i64) 3 w B (fun k => T k = 2) v2 l2
 h3 : Kd.R (Kd.int .i64) 3 w B (fun k => T k = 3) v3 l3
 h4 : Kd.R (Kd.int .i64) 3 w B (fun k => T k = 4) v4 l4
 h5 : Kd.S (Kd.slice 72 k72) 42 w B (fun k => T k = 5) v5 l5
 h6 : Kd.R (Kd.int .i64) 3 w B (fun k => T k = 6) v6 l6
 h7 : Kd.R (Kd.int .i64) 3 w B (fun k => T k = 7) v7 l7
 h8 : Kd.S (Kd.slice 72 k72) 42 w B (fun k => T k = 8) v8 l8
 h9 : Kd.S (Kd.slice 72 k72) 42 w B (fun k => T k = 9) v9 l9
section
variable {T : Nat → Nat} {B : Nat} {w w1 : World} {v2 v3 v4 v5 v6 v7 v8 v9 : Value} {l2 l3 l4 : List Int} {l5 : List (List S72)} {l6 l7 : List Int} {l8 l9 : List (List S72)}
theorem Marks.below (h : Marks T B w v2 v3 v4 v5 v6 v7 v8 v9 l2 l3 l4 l5 l6 l7 l8 l9) (hb : Below w.heap.size w w1) : Marks T B w1 v2 v3 v4 v5 v6 v7 v8 v9 l2 l3 l4 l5 l6 l7 l8 l9 :=
 ⟨h.lo, fun k hk => Nat.lt_of_lt_of_le (h.hi k hk) hb.size, Kd.R_below h.h2 hb, Kd.R_below h.h3 hb, Kd.R_below h.h4 hb, Kd.S_below h.h5 hb, Kd.R_below h.h6 hb, Kd.R_below h.h7 hb, Kd.S_below h.h8 hb, Kd.S_below h.h9 hb⟩
theorem Marks.lower {B' : Nat} (h : Marks T B w v2 v3 v4 v5 v6 v7 v8 v9 l2 l3 l4 l5 l6 l7 l8 l9) (hb : B' ≤ B) : Marks T B' w v2 v3 v4 v5 v6 v7 v8 v9 l2 l3 l4 l5 l6 l7 l8 l9 :=
 ⟨fun k hk => Nat.le_trans hb (h.lo k hk), h.hi, Kd.R_lower h.h2 hb, Kd.R_lower h.h3 hb, Kd.R_lower h.h4 hb, Kd.S_lower h.h5 hb, Kd.R_lower h.h6 hb, Kd.R_lower h.h7 hb, Kd.S_lower h.h8 hb, Kd.S_lower h.h9 hb⟩
open Classical in
theorem Marks.set6 {ok' ok'' : Nat → Prop} {r6 : List Int} (h : Marks T B w v2 v3 v4 v5 v6 v7 v8 v9 l2 l3 l4 l5 l6 l7 l8 l9) (k : Kept w w1 (fun k => T k = 6)) (q6 : Kd.R (Kd.int .i64) 3 w1 B ok' v6 r6) : Marks T B w1 v2 v3 v4 v5 v6 v7 v8 v9 l2 l3 l4 l5 r6 l7 l8 l9 :=
 ⟨h.lo, fun q hq => Nat.lt_of_lt_of_le (h.hi q hq) k.1, Kd.R_kept h.h2 k (fun q a b => absurd (a.symm.trans b) (by decide)), Kd.R_kept h.h3 k (fun q a b => absurd (a.symm.trans b) (by decide)), Kd.R_kept h.h4 k (fun q a b => absurd (a.symm.trans b) (by decide)), Kd.S_kept h.h5 k (fun q a b => absurd (a.symm.trans b) (by decide)), Kd.R_reok rfl q6 (fun q e => h.h6.1 q e), Kd.R_kept h.h7 k (fun q a b => absurd (a.symm.trans b) (by decide)), Kd.S_kept h.h8 k (fun q a b => absurd (a.symm.trans b) (by decide)), Kd.S_kept h.h9 k (fun q a b => absurd (a.symm.trans b) (by decide))⟩
theorem Marks.set7 {ok' ok'' : Nat → Prop} {r7 : List Int} (h : Marks T B w v2 v3 v4 v5 v6 v7 v8 v9 l2 l3 l4 l5 l6 l7 l8 l9) (k : Kept w w1 (fun k => T k = 7)) (q7 : Kd.R (Kd.int .i64) 3 w1 B ok' v7 r7) : Marks T B w1 v2 v3 v4 v5 v6 v7 v8 v9 l2 l3 l4 l5 l6 r7 l8 l9 :=
 ⟨h.lo, fun q hq => Nat.lt_of_lt_of_le (h.hi q hq) k.1, Kd.R_kept h.h2 k (fun q a b => absurd (a.symm.trans b) (by decide)), Kd.R_kept h.h3 k (fun q a b => absurd (a.symm.trans b) (by decide)), Kd.R_kept h.h4 k (fun q a b => absurd (a.symm.trans b) (by decide)), Kd.S_kept h.h5 k (fun q a b => absurd (a.symm.trans b) (by decide)), Kd.R_kept h.h6 k (fun q a b => absurd (a.symm.trans b) (by decide)), Kd.R_reok rfl q7 (fun q e => h.h7.1 q e), Kd.S_kept h.h8 k (fun q a b => absurd (a.symm.trans b) (by decide)), Kd.S_kept h.h9 k (fun q a b => absurd (a.symm.trans b) (by decide))⟩
end
section
variable {T : Nat → Nat} {B : Nat} {w w1 : World} {v2 v3 v4 v5 v6 v7 v8 v9 : Value} {l2 l3 l4 : List Int} {l5 : List (List S72)} {l6 l7 : List Int} {l8 l9 : List (List S72)}
theorem Marks.move (h : Marks T B w v2 v3 v4 v5 v6 v7 v8 v9 l2 l3 l4 l5 l6 l7 l8 l9) (hm : ∀ k, T k ≠ 0 → w1.heap[k]? = w.heap[k]?) (hs : w.heap.size ≤ w1.heap.size) : Marks T B w1 v2 v3 v4 v5 v6 v7 v8 v9 l2 l3 l4 l5 l6 l7 l8 l9 :=
 have m (n : Nat) (hn : n ≠ 0) : ∀ k, T k = n → w1.heap[k]? = w.heap[k]? := fun k e => hm k (e ▸ hn)
 ⟨h.lo, fun k hk => Nat.lt_of_lt_of_le (h.hi k hk) hs, Kd.R_move h.h2 (m 2 (by decide)), Kd.R_move h.h3 (m 3 (by decide)), Kd.R_move h.h4 (m 4 (by decide)), Kd.S_move h.h5 (m 5 (by decide)), Kd.R_move h.h6 (m 6 (by decide)), Kd.R_move h.h7 (m 7 (by decide)), Kd.S_move h.h8 (m 8 (by decide)), Kd.S_move h.h9 (m 9 (by decide))⟩
open Classical in
theorem marks_tag0 (hT : ∀ k, T k ≠ 0 → B ≤ k ∧ k < w.heap.size) (h2 : Kd.R (Kd.int .i64) 3 w B (fun k => T k = 2) v2 l2) (h3 : Kd.R (Kd.int .i64) 3 w B (fun k => T k = 3 ∧ some k ≠ v4.ownBlock) v3 l3) (h4 : Kd.R (Kd.int .i64) 3 w B (fun k => T k = 3 ∧ some k ≠ v3.ownBlock) v4 l4)
  (h5 : Kd.S (Kd.slice 72 k72) 42 w B (fun k => T k = 5) v5 l5) (h6 : Kd.R (Kd.int .i64) 3 w B (fun k => T k = 6) v6 l6) (h7 : Kd.R (Kd.int .i64) 3 w B (fun k => T k = 7) v7 l7) (h8 : Kd.S (Kd.slice 72 k72) 42 w B (fun k => T k = 8) v8 l8) (h9 : Kd.S (Kd.slice 72 k72) 42 w B (fun k => T k = 9) v9 l9) :
  ∃ T', (∀ k, T k = 0 → T' k = 0) ∧ Marks T' B w v2 v3 v4 v5 v6 v7 v8 v9 l2 l3 l4 l5 l6 l7 l8 l9 := by
 have hv : ∀ k, v4.ownBlock = some k → T k = 3 := fun k e => (h4.1 k e).1
 have hk : ∀ (n : Nat), n ≠ 3 → ∀ k, T k = n → (if some k = v4.ownBlock then 4 else T k) = n := fun n hn k e => by
  rw [if_neg (fun h => hn (e.symm.trans (hv k h.symm)))]; exact e
 refine ⟨fun k => if some k = v4.ownBlock then 4 else T k, fun k h0 => by (show (if some k = v4.ownBlock then 4 else T k) = 0; rw [if_neg (fun e => by have := hv k e.symm; omega)]; exact h0), fun k h => ?_, fun k h => ?_, Kd.R_mono h2 (hk 2 (by decide)), Kd.R_mono h3 (fun k h => by rw [if_neg h.2]; exact h.1), Kd.R_mono (Kd.R_tight rfl h4) (fun k e => if_pos e), Kd.S_mono h5 (hk 5 (by decide)), Kd.R_mono h6 (hk 6 (by decide)), Kd.R_mono h7 (hk 7 (by decide)), Kd.S_mono h8 (hk 8 (by decide)), Kd.S_mono h9 (hk 9 (by decide))⟩
 ·by_cases e : some k = v4.ownBlock
  ·exact (hT k (by rw [hv k e.symm]; decide)).1
  ·rw [if_neg e] at h; exact (hT k h).1
 ·by_cases e : some k = v4.ownBlock
  ·exact (hT k (by rw [hv k e.symm]; decide)).2
  ·rw [if_neg e] at h; exact (hT k h).2
theorem Marks.zlo (h : Marks T B w v2 v3 v4 v5 v6 v7 v8 v9 l2 l3 l4 l5 l6 l7 l8 l9) {k : Nat} (hk : k < B) : T k = 0 := Classical.byContradiction fun h_ => absurd (h.lo k h_) (Nat.not_le.2 hk)
theorem Marks.zhi (h : Marks T B w v2 v3 v4 v5 v6 v7 v8 v9 l2 l3 l4 l5 l6 l7 l8 l9) {k : Nat} (hk : w.heap.size ≤ k) : T k = 0 := Classical.byContradiction fun h_ => absurd (h.hi k h_) (Nat.not_lt.2 hk)
theorem Marks.belowV {V : World} (h : Marks T B w v2 v3 v4 v5 v6 v7 v8 v9 l2 l3 l4 l5 l6 l7 l8 l9) (hb : Below V.heap.size V w1) (hV : V.heap = w.heap := by rfl) : Marks T B w1 v2 v3 v4 v5 v6 v7 v8 v9 l2 l3 l4 l5 l6 l7 l8 l9 :=
 Marks.below (Marks.move h (fun k _ => by rw [hV]) (Nat.le_of_eq (by rw [hV]))) hb
theorem Marks.grow6 {u6 : Value} {r6 : List Int} (h : Marks T B w v2 v3 v4 v5 v6 v7 v8 v9 l2 l3 l4 l5 l6 l7 l8 l9) (hb : B ≤ w.heap.size) (h6 : Kd.R (Kd.int .i64) 3 w1 B (fun k => T k = 6 ∨ w.heap.size ≤ k) u6 r6) (hK : Kept w w1 (fun k => T k = 6)) :
  ∃ T', (∀ k, k < w.heap.size → T' k = T k) ∧ Marks T' B w1 v2 v3 v4 v5 u6 v7 v8 v9 l2 l3 l4 l5 r6 l7 l8 l9 := by
 have hm : ∀ n, n ≠ 0 → n ≠ 6 → (∀ k, T k = n → w1.heap[k]? = w.heap[k]?) ∧ ∀ k, T k = n → (if w.heap.size ≤ k ∧ k < w1.heap.size then 6 else T k) = n := fun n h0 h8 =>
  ⟨fun k e => hK.2 k (h.hi k (by omega)) (fun e2 => h8 (e.symm.trans e2)), fun k e => by have := h.hi k (by omega); rw [if_neg (by omega)]; exact e⟩
 have hR {d : Kd Int} {e : Nat} {v : Value} {xs : List Int} (n : Nat) (h0 : n ≠ 0) (hn : n ≠ 6) (h2 : Kd.R d e w B (fun k => T k = n) v xs) : Kd.R d e w1 B (fun k => (if w.heap.size ≤ k ∧ k < w1.heap.size then 6 else T k) = n) v xs := Kd.R_mono (Kd.R_move h2 (hm n h0 hn).1) (hm n h0 hn).2
 have hS {d : Kd (List S72)} {e : Nat} {v : Value} {xs : List (List S72)} (n : Nat) (h0 : n ≠ 0) (hn : n ≠ 6) (h2 : Kd.S d e w B (fun k => T k = n) v xs) : Kd.S d e w1 B (fun k => (if w.heap.size ≤ k ∧ k < w1.heap.size then 6 else T k) = n) v xs := Kd.S_mono (Kd.S_move h2 (hm n h0 hn).1) (hm n h0 hn).2
 refine ⟨fun k => if w.heap.size ≤ k ∧ k < w1.heap.size then 6 else T k, fun k hk => if_neg (by omega), fun k hk => ?_, fun k hk => ?_, hR 2 (by decide) (by decide) h.h2, hR 3 (by decide) (by decide) h.h3, hR 4 (by decide) (by decide) h.h4, hS 5 (by decide) (by decide) h.h5, Kd.R_mono (Kd.R_bound h6) (fun k q => ?_), hR 7 (by decide) (by decide) h.h7, hS 8 (by decide) (by decide) h.h8, hS 9 (by decide) (by decide) h.h9⟩
 ·split at hk
  ·omega
  ·exact h.lo k hk
 ·split at hk
  ·omega
  ·exact Nat.lt_of_lt_of_le (h.hi k hk) hK.1
 ·by_cases hz : w.heap.size ≤ k ∧ k < w1.heap.size
  ·exact if_pos hz
  ·have := q.2.2.1
   rw [if_neg hz]; exact q.1.resolve_right (by omega)
theorem Marks.app6 {u6 : Value} {r6 : List Int} (h : Marks T B w v2 v3 v4 v5 v6 v7 v8 v9 l2 l3 l4 l5 l6 l7 l8 l9) (hb : B ≤ w.heap.size) (ho : Kd.R (Kd.int .i64) 3 w1 B (fun k => T k = 6 ∨ T k = 0) u6 r6) (hg : w.grownBy w1 v6.ownBlock) (hat : u6.ownBlock = v6.ownBlock ∨ ∃ b, u6.ownBlock = some b ∧ w.heap.size ≤ b) :
  Kept w w1 (fun k => T k = 6) ∧ ∃ T', (∀ k, k < w.heap.size → T' k = T k) ∧ Marks T' B w1 v2 v3 v4 v5 u6 v7 v8 v9 l2 l3 l4 l5 r6 l7 l8 l9 := by
 have hK : Kept w w1 (fun k => T k = 6) := Kept.of_grown hg (Kept.refl _ _) (fun k e => Or.inl (h.h6.1 k e))
 refine ⟨hK, h.grow6 hb (Kd.R_reok rfl ho (fun k e => ?_)) hK⟩
 rcases hat with h1 | ⟨b, h1, hb1⟩
 ·exact Or.inl (h.h6.1 k (h1.symm.trans e))
 ·have h2 := h1.symm.trans e
  injection h2 with h2
  subst h2
  exact Or.inr hb1
end
section
variable {P : Program} {ops : Array Oper} {Q : Exit → Act → World → Prop} {md : Region.Mode} {S : World → Prop}
theorem wpAnyLast_more : ∀ (n : Nat) (l : Array Bool) (a : Act) (w : World), wpAnyLast P md ops Q S [] n l a w → wpAnyLast P md ops Q S [] (n + 1) l a w
 | 0, l, a, w, h => ⟨fun _ => h.2, by rw [h.1]; simp⟩
 | n + 1, l, a, w, h => ⟨h.1, fun i hi => wpOp_mono (fun a' w' h' => ⟨h'.1, wpAnyLast_more n _ a' w' h'.2⟩) (h.2 i hi)⟩
theorem wpAnyLast_moreN {n : Nat} {l : Array Bool} {a : Act} {w : World} (h : wpAnyLast P md ops Q S [] n l a w) : ∀ m, wpAnyLast P md ops Q S [] (n + m) l a w
 | 0 => h
 | m + 1 => wpAnyLast_more _ _ _ _ (wpAnyLast_moreN h m)
theorem count_lt {p q : Nat → Bool} (hpq : ∀ j, q j = true → p j = true) {i : Nat} (hp : p i = true) (hq : q i = false) : ∀ {evs : List Nat}, i ∈ evs → evs.countP q < evs.countP p
 | e :: r, h => by
  have hle : r.countP q ≤ r.countP p := List.countP_mono_left (fun x _ hx => hpq x hx)
  rw [List.countP_cons, List.countP_cons]
  rcases List.mem_cons.1 h with rfl | h
  ·rw [if_neg (by simp [hq]), if_pos hp]; omega
  ·have := count_lt hpq hp hq h
   by_cases hx : q e = true
   ·rw [if_pos hx, if_pos (hpq e hx)]; omega
   ·rw [if_neg hx]; omega
def topoB (md : Region.Mode) (ops : Array Oper) (l0 : Array Bool) : List Nat → List Nat → Bool
 | _, [] => true
 | seen, e :: r => (match ops[e]? with | some o => o.after.all (fun d => !Region.binds md d || l0.getD d.on false || seen.contains d.on) | none => false) && topoB md ops l0 (e :: seen) r
theorem topo_ready {l0 l : Array Bool} (h0 : ∀ j, l0.getD j false = true → l.getD j false = true) (hs : l.size = ops.size) : ∀ (seen evs : List Nat), topoB md ops l0 seen evs = true → (∀ s ∈ seen, l.getD s false = true) → (∃ e ∈ evs, l.getD e true = false) → Region.ready md ops l ≠ []
 | seen, [], _, _, h => by obtain ⟨e, he, _⟩ := h; cases he
 | seen, e :: r, ht, hseen, h => by
  unfold topoB at ht
  rw [Bool.and_eq_true] at ht
  obtain ⟨h1, h2⟩ := ht
  cases ho : ops[e]? with
  | none => rw [ho] at h1; cases h1
  | some o =>
   rw [ho] at h1
   have hlt : e < ops.size := (Array.getElem?_eq_some_iff.1 ho).1
   by_cases hl : l.getD e true = false
   ·intro hr
    have : e ∈ Region.ready md ops l := mem_ready.2 ⟨hl, o, ho, fun d hd hb => by
     have h3 := Array.all_eq_true_iff_forall_mem.1 h1 d hd
     simp only [hb, Bool.not_true, Bool.false_or, Bool.or_eq_true] at h3
     rcases h3 with h3 | h3
     ·exact h0 _ h3
     ·exact hseen _ (by simpa using h3)⟩
    rw [hr] at this
    cases this
   ·refine topo_ready h0 hs (e :: seen) r h2 (fun s hs' => ?_) ?_
    ·rcases List.mem_cons.1 hs' with rfl | hs'
     ·have : s < l.size := by omega
      simp [this] at hl ⊢
      exact hl
     ·exact hseen s hs'
    ·obtain ⟨x, hx, hxl⟩ := h
     rcases List.mem_cons.1 hx with rfl | hx
     ·exact absurd hxl hl
     ·exact ⟨x, hx, hxl⟩
def evsB (md : Region.Mode) (ops : Array Oper) (tag cons : Nat → Nat) (evs : List Nat) (l0 lall : Array Bool) : Bool :=
 (ops.size == l0.size) && Region.closedB md ops l0 && topoB md ops l0 [] evs
  && (evs.all fun i => evs.all fun j => i == j || tag i != tag j || cons j == i || Region.reachB md ops i ops.size j)
  && ((List.range ops.size).all fun j => evs.contains j || l0.getD j true || evs.all fun e => Region.reachB md ops e ops.size j)
  && (evs.all fun j => !evs.contains (cons j) || Region.reachB md ops j ops.size (cons j))
  && (evs.all fun j => cons j != j && !l0.getD j true)
  && (evs.foldl (fun l i => l.setIfInBounds i true) l0 == lall)
theorem fold_size : ∀ (evs : List Nat) (l : Array Bool), (evs.foldl (fun l i => l.setIfInBounds i true) l).size = l.size
 | [], _ => rfl
 | e :: r, l => by rw [List.foldl_cons, fold_size r]; exact Array.size_setIfInBounds
theorem fold_get : ∀ (evs : List Nat) (l : Array Bool) (j : Nat), (evs.foldl (fun l i => l.setIfInBounds i true) l).getD j true = (if j ∈ evs then true else l.getD j true)
 | [], _, _ => by simp
 | e :: r, l, j => by
  rw [List.foldl_cons, fold_get r]
  by_cases hj : j ∈ r
  ·rw [if_pos hj, if_pos (List.mem_cons_of_mem _ hj)]
  ·rw [if_neg hj]
   by_cases he : j = e
   ·subst he
    rw [if_pos List.mem_cons_self]
    rcases Nat.lt_or_ge j l.size with h | h
    ·simp [h]
    ·simp [Nat.not_lt.2 h]
   ·rw [if_neg (by simp [he, hj]), getD_set_ne _ (Ne.symm he)]
theorem arr_ext {l l' : Array Bool} (hs : l.size = l'.size) (h : ∀ j, l.getD j true = l'.getD j true) : l = l' := by
 apply Array.ext hs
 intro i h1 h2
 have := h i
 simpa [h1, h2] using this
open Classical in
theorem evs_ (evs : List Nat) (tag cons : Nat → Nat) (act : (Nat → Value) → Act) (Fc : Nat → (Nat → Prop) → Value → World → Prop) (w0 : World) (B : Nat) (l0 lall : Array Bool) (hB : evsB md ops tag cons evs l0 lall = true)
  (hmono : ∀ i, i ∈ evs → ∀ ok ok' v w, Fc i ok v w → (∀ k, ok k → ok' k) → Fc i ok' v w)
  (hmove : ∀ i, i ∈ evs → ∀ ok v w w1, Fc i ok v w → (∀ k, ok k → k < w.heap.size → w1.heap[k]? = w.heap[k]?) → Fc i ok v w1)
  (hpos : ∀ i, i ∈ evs → tag i ≠ 0)
  (hev : ∀ i, i ∈ evs → ∃ oi, ops[i]? = some oi ∧ ∀ (T : Nat → Nat) (v : Nat → Value) (w : World), S w → Below w0.heap.size w0 w → B ≤ w.heap.size → (∀ k, T k ≠ 0 → B ≤ k ∧ k < w.heap.size) → (∀ j, j ∈ evs → cons j = i → Fc j (fun k => T k = tag j) (v j) w) →
   ∀ K : Act → World → Prop, (∀ x w1, S w1 → Below w0.heap.size w0 w1 → w.heap.size ≤ w1.heap.size → (∀ k, k < w.heap.size → T k ≠ tag i → w1.heap[k]? = w.heap[k]?) → Fc i (fun k => T k = tag i ∨ w.heap.size ≤ k ∧ k < w1.heap.size) x w1 → K (act (fun j => if j = i then x else v j)) w1) →
    if Region.wanted oi (yielded ops (act v).tmps) = true then Oper.wp P oi (act v) w K Q else K ((act v).put oi.dst undef) w)
  {m : Nat} (hcont : ∀ (T : Nat → Nat) (v : Nat → Value) (w : World), S w → Below w0.heap.size w0 w → (∀ k, T k ≠ 0 → B ≤ k ∧ k < w.heap.size) → (∀ j, j ∈ evs → cons j ∉ evs → Fc j (fun k => T k = tag j) (v j) w) → wpAnyLast P md ops Q S [] m lall (act v) w)
  (v : Nat → Value) (w : World) (hS : S w) (hW : Below w0.heap.size w0 w) (hBw : B ≤ w.heap.size) : wpAnyLast P md ops Q S [] (m + evs.length) l0 (act v) w := by
 simp only [evsB, Bool.and_eq_true, beq_iff_eq] at hB
 obtain ⟨⟨⟨⟨⟨⟨⟨b1, b2⟩, b3⟩, b4⟩, b5⟩, b6⟩, b7⟩, b8⟩ := hB
 suffices H : ∀ (c : Nat) (l : Array Bool) (T : Nat → Nat) (v : Nat → Value) (w : World), evs.countP (fun e => !l.getD e true) ≤ c → l.size = ops.size → ListedClosed md ops l → (∀ j, j ∉ evs → l.getD j true = l0.getD j true) →
   S w → Below w0.heap.size w0 w → B ≤ w.heap.size → (∀ k, T k ≠ 0 → B ≤ k ∧ k < w.heap.size) → (∀ j, j ∈ evs → l.getD j true = true → (cons j ∈ evs → l.getD (cons j) true = false) → Fc j (fun k => T k = tag j) (v j) w) →
   wpAnyLast P md ops Q S [] (m + c) l (act v) w from
  H evs.length l0 (fun _ => 0) v w List.countP_le_length b1.symm (Region.closedB_spec b2) (fun _ _ => rfl) hS hW hBw (fun k hk => absurd rfl hk) (fun j hj hl _ => by
   have := List.all_eq_true.1 b7 j hj
   simp [hl] at this)
 have hall : ∀ (l : Array Bool), evs.countP (fun e => !l.getD e true) = 0 → l.size = ops.size → (∀ j, j ∉ evs → l.getD j true = l0.getD j true) → l = lall := by
  intro l hc hs ho
  rw [← b8]
  refine arr_ext (by rw [fold_size, hs, b1]) (fun j => ?_)
  rw [fold_get]
  by_cases hj : j ∈ evs
  ·rw [if_pos hj]
   have := List.countP_eq_zero.1 hc j hj
   simpa using this
  ·rw [if_neg hj]
   exact ho j hj
 have hlist : ∀ (l : Array Bool), evs.countP (fun e => !l.getD e true) = 0 → ∀ j ∈ evs, l.getD j true = true := by
  intro l hc j hj
  have := List.countP_eq_zero.1 hc j hj
  simpa using this
 intro c
 induction c with
 | zero =>
  intro l T v w hc hs hcl ho hS hW hBw hT hF
  have hc0 := Nat.le_zero.1 hc
  rw [hall l hc0 hs ho]
  exact hcont T v w hS hW hT (fun j hj hcj => hF j hj (hlist l hc0 j hj) (fun h => absurd h hcj))
 | succ c ih =>
  intro l T v w hc hs hcl ho hS hW hBw hT hF
  by_cases hc0 : evs.countP (fun e => !l.getD e true) = 0
  ·rw [hall l hc0 hs ho]
   exact wpAnyLast_moreN (hcont T v w hS hW hT (fun j hj hcj => hF j hj (hlist l hc0 j hj) (fun h => absurd h hcj))) _
  ·have hex : ∃ e ∈ evs, l.getD e true = false := by
    have := List.countP_pos_iff.1 (Nat.pos_of_ne_zero hc0)
    obtain ⟨e, he, h⟩ := this
    exact ⟨e, he, by simpa using h⟩
   have h0l : ∀ j, l0.getD j false = true → l.getD j false = true := by
    intro j hj
    have hlt : j < l0.size := by
     rcases Nat.lt_or_ge j l0.size with h | h
     ·exact h
     ·simp [Nat.not_lt.2 h] at hj
    have hlt' : j < l.size := by omega
    have hjt : l0.getD j true = true := by
     simp only [Array.getD_eq_getD_getElem?, Array.getElem?_eq_getElem hlt, Option.getD_some] at hj ⊢
     exact hj
    have hne : j ∉ evs := fun hj' => by
     have := List.all_eq_true.1 b7 j hj'
     rw [hjt] at this
     simp at this
    have := ho j hne
    rw [hjt] at this
    simp only [Array.getD_eq_getD_getElem?, Array.getElem?_eq_getElem hlt', Option.getD_some] at this ⊢
    exact this
   refine ⟨fun hr => absurd hr (topo_ready h0l hs [] evs b3 (fun s h => by cases h) hex), fun i hi => ?_⟩
   have hiun := (mem_ready.1 hi).1
   have hie : i ∈ evs := by
    refine Classical.byContradiction fun hie => ?_
    have hlt : i < ops.size := by
     obtain ⟨_, o, h, _⟩ := mem_ready.1 hi
     exact (Array.getElem?_eq_some_iff.1 h).1
    have h5 := List.all_eq_true.1 b5 i (List.mem_range.2 hlt)
    rw [← ho i hie, hiun, Bool.or_false, Bool.or_eq_true] at h5
    rcases h5 with h5 | h5
    ·exact hie (by simpa using h5)
    ·obtain ⟨e, he, hel⟩ := hex
     exact Region.reach_not_ready hcl (List.all_eq_true.1 h5 e he) hel hi
   obtain ⟨oi, hoi, hgo⟩ := hev i hie
   refine wpOp_step hoi (fun K' hK => ?_)
   refine hgo T v w hS hW hBw hT (fun j hj hji => ?_) K' (fun x w1 hS1 hW1 hsz hkeep hFx => hK _ _ ⟨fun _ _ => hS1, ?_⟩)
   ·refine hF j hj ?_ (fun _ => by rw [hji]; exact hiun)
    refine Classical.byContradiction fun hjl => ?_
    have hjl' : l.getD j true = false := by simpa using hjl
    have h6 := List.all_eq_true.1 b6 j hj
    rw [hji] at h6
    have hin : evs.contains i = true := by simpa using hie
    rw [hin] at h6
    exact Region.reach_not_ready hcl (by simpa using h6) hjl' hi
   ·have hilt : i < l.size := by
     rcases Nat.lt_or_ge i l.size with h | h
     ·exact h
     ·simp [Nat.not_lt.2 h] at hiun
    have hset : (l.setIfInBounds i true).getD i true = true := by simp [hilt]
    refine ih (l.setIfInBounds i true) (fun k => if w.heap.size ≤ k ∧ k < w1.heap.size then tag i else T k) _ w1 ?_ (by rw [Array.size_setIfInBounds]; exact hs) (hcl.set hi) (fun j hj => ?_) hS1 hW1 (Nat.le_trans hBw hsz) (fun k hk => ?_) (fun j hj hjl hcj => ?_)
    ·have := count_lt (p := fun e => !l.getD e true) (q := fun e => !(l.setIfInBounds i true).getD e true) (fun j hj => by
      by_cases hji : i = j
      ·subst hji; simp [hset] at hj
      ·rw [getD_set_ne _ hji] at hj; exact hj) (i := i) (by simpa using hiun) (by simp [hset]) hie
     omega
    ·have hne : i ≠ j := fun h => hj (h ▸ hie)
     rw [getD_set_ne _ hne]
     exact ho j hj
    ·have hk : (if w.heap.size ≤ k ∧ k < w1.heap.size then tag i else T k) ≠ 0 := hk
     split at hk
     ·rename_i h; exact ⟨Nat.le_trans hBw h.1, h.2⟩
     ·have := hT k hk; exact ⟨this.1, Nat.lt_of_lt_of_le this.2 hsz⟩
    ·by_cases hji : j = i
     ·subst hji
      rw [if_pos rfl]
      refine hmono j hj _ _ _ _ hFx (fun k hk => ?_)
      rcases hk with hk | hk
      ·have h1 : T k ≠ 0 := by rw [hk]; exact hpos j hj
       rw [if_neg (fun h => by have := (hT k h1).2; omega)]
       exact hk
      ·rw [if_pos hk]
     ·rw [if_neg hji]
      rw [getD_set_ne _ (Ne.symm hji)] at hjl
      have hcj' : cons j ∈ evs → l.getD (cons j) true = false := fun h => by
       have h2 := hcj h
       by_cases hci : i = cons j
       ·rw [← hci, hset] at h2; cases h2
       ·rwa [getD_set_ne _ hci] at h2
      have hold := hF j hj hjl hcj'
      have hti : tag j ≠ tag i := by
       intro hti
       have h4 := List.all_eq_true.1 (List.all_eq_true.1 b4 i hie) j hj
       simp only [Bool.or_eq_true, beq_iff_eq, bne_iff_ne, ne_eq] at h4
       rcases h4 with ((h4 | h4) | h4) | h4
       ·exact hji h4.symm
       ·exact h4 hti.symm
       ·have h2 := hcj (by rw [h4]; exact hie)
        rw [h4, hset] at h2
        cases h2
       ·have hjf : l.getD j false = true := by
         have hjlt : j < l.size := by
          rcases Nat.lt_or_ge j ops.size with h | h
          ·omega
          ·have : ∃ oj, ops[j]? = some oj := by obtain ⟨oj, h', _⟩ := hev j hj; exact ⟨oj, h'⟩
           obtain ⟨oj, h'⟩ := this
           exact hs ▸ (Array.getElem?_eq_some_iff.1 h').1
         simp only [Array.getD_eq_getD_getElem?, Array.getElem?_eq_getElem hjlt, Option.getD_some] at hjl ⊢
         exact hjl
        have := Region.reach_listed hcl _ _ h4 hjf
        simp only [Array.getD_eq_getD_getElem?, Array.getElem?_eq_getElem hilt, Option.getD_some] at this hiun
        rw [this] at hiun
        cases hiun
      refine hmono j hj _ _ _ _ (hmove j hj _ _ _ _ hold (fun k hk hlt => hkeep k hlt (by rw [hk]; exact hti))) (fun k hk => ?_)
      have h1 : T k ≠ 0 := by rw [hk]; exact hpos j hj
      rw [if_neg (fun h => by have := (hT k h1).2; omega)]
      exact hk
end
structure Ev where
 F : (Nat → Prop) → Value → World → Prop
 mono : ∀ ok ok' v w, F ok v w → (∀ k, ok k → ok' k) → F ok' v w
 move : ∀ ok v w w1, F ok v w → (∀ k, ok k → k < w.heap.size → w1.heap[k]? = w.heap[k]?) → F ok v w1
def Ev.no : Ev := ⟨fun _ _ _ => False, fun _ _ _ _ h _ => h, fun _ _ _ _ h _ => h⟩
def Ev.R {α : Type} (d : Kd α) (e B : Nat) (xs : List α) : Ev := ⟨fun ok v w => d.R e w B ok v xs, fun _ _ _ _ h hk => Kd.R_mono h hk, fun _ _ _ _ h hm => Kd.R_step h hm⟩
def Ev.S {α : Type} (d : Kd α) (e B : Nat) (xs : List α) : Ev := ⟨fun ok v w => Kd.S d e w B ok v xs, fun _ _ _ _ h hk => Kd.S_mono h hk, fun _ _ _ _ h hm => Kd.S_step h hm⟩
def Ev.A1 (e B : Nat) (x y : Value) (xs : List Int) : Ev := ⟨fun ok v w => ∃ u, v = .agg #[x, y, u] ∧ (Kd.int .i64).R e w B ok u xs, fun _ _ _ _ ⟨u, h1, h⟩ hk => ⟨u, h1, Kd.R_mono h hk⟩, fun _ _ _ _ ⟨u, h1, h⟩ hm => ⟨u, h1, Kd.R_step h hm⟩⟩
def Ev.A2 (e B : Nat) (xs ys : List Int) : Ev := ⟨fun ok v w => ∃ u u', v = .agg #[u, u'] ∧ (Kd.int .i64).R e w B (fun k => ok k ∧ some k ≠ u'.ownBlock) u xs ∧ (Kd.int .i64).R e w B (fun k => ok k ∧ some k ≠ u.ownBlock) u' ys,
 fun _ _ _ _ ⟨u, u', h1, h, h'⟩ hk => ⟨u, u', h1, Kd.R_mono h (fun k hk' => ⟨hk k hk'.1, hk'.2⟩), Kd.R_mono h' (fun k hk' => ⟨hk k hk'.1, hk'.2⟩)⟩,
 fun _ _ _ _ ⟨u, u', h1, h, h'⟩ hm => ⟨u, u', h1, Kd.R_step h (fun k hk => hm k hk.1), Kd.R_step h' (fun k hk => hm k hk.1)⟩⟩
theorem evsA_ {P : Program} {ops : Array Oper} {Q : Exit → Act → World → Prop} {md : Region.Mode} {S : World → Prop} {a : Act} {w : World} {l0 : Array Bool} {n : Nat} (evs : List Nat) (tag cons : Nat → Nat) (ns : (Nat → Value) → List (Tmp × Value)) (E : Nat → Ev) (lall : Array Bool) (m : Nat) (hn : n = m + evs.length) (hB : evsB md ops tag cons evs l0 lall = true)
  (h0 : putAll a (ns (fun _ => undef)) = a) (hpos : ∀ i, i ∈ evs → tag i ≠ 0) (hS : ∀ w1, Below w.heap.size w w1 → S w1)
  (hev : ∀ i, i ∈ evs → ∃ oi, ops[i]? = some oi ∧ (∀ v x, (putAll a (ns v)).put oi.dst x = putAll a (ns (fun j => if j = i then x else v j))) ∧ ∀ (T : Nat → Nat) (v : Nat → Value) (W : World), Below w.heap.size w W → w.heap.size ≤ W.heap.size → (∀ j, j ∈ evs → cons j = i → (E j).F (fun k => T k = tag j) (v j) W) →
   ∀ (K : Act → World → Prop) (a1 : Act), putAll a (ns v) = a1 → (∀ x w1, Below w.heap.size w w1 → W.heap.size ≤ w1.heap.size → (∀ k, k < W.heap.size → T k ≠ tag i → w1.heap[k]? = W.heap[k]?) → (E i).F (fun k => T k = tag i ∨ W.heap.size ≤ k ∧ k < w1.heap.size) x w1 → K (a1.put oi.dst x) w1) →
    if Region.wanted oi (yielded ops a1.tmps) = true then Oper.wp P oi a1 W K Q else K (a1.put oi.dst undef) W)
  (hcont : ∀ (T : Nat → Nat) (v : Nat → Value) (W : World), S W → Below w.heap.size w W → (∀ k, T k ≠ 0 → w.heap.size ≤ k ∧ k < W.heap.size) → (∀ j, j ∈ evs → cons j ∉ evs → (E j).F (fun k => T k = tag j) (v j) W) → wpAnyLast P md ops Q S [] m lall (putAll a (ns v)) W) : wpAnyLast P md ops Q S [] n l0 a w := by
 subst hn
 have := evs_ evs tag cons (fun v => putAll a (ns v)) (fun i => (E i).F) w w.heap.size l0 lall hB (fun i _ => (E i).mono) (fun i _ => (E i).move) hpos (fun i hi => ?_) hcont (fun _ => undef) w (hS w (Below.refl _ _)) (Below.refl _ _) (Nat.le_refl _)
 ·rw [h0] at this
  exact this
 ·obtain ⟨oi, ho, hp, h⟩ := hev i hi
  refine ⟨oi, ho, fun T v W _ hW hBW _ hc K hK => h T v W hW hBW hc K _ rfl (fun x w1 hb hs hk hF => ?_)⟩
  rw [hp v x]
  exact hK x w1 (hS w1 hb) hb hs hk hF
theorem rq_ {α : Type} {d : Kd α} {e B : Nat} {W w1 : World} {ok ok' : Nat → Prop} {v : Value} {xs : List α} (h : d.R e w1 W.heap.size ok v xs) (hb : B ≤ W.heap.size) (hk : ∀ k, ok k → W.heap.size ≤ k ∧ k < w1.heap.size → ok' k) : d.R e w1 B ok' v xs := Kd.R_lower (Kd.R_mono (Kd.R_bound h) (fun k h => hk k h.1 ⟨h.2.1, h.2.2.1⟩)) hb
theorem sqq_ {α : Type} {d : Kd α} {e B : Nat} {W w1 : World} {ok ok' : Nat → Prop} {v : Value} {xs : List α} (h : Kd.S d e w1 W.heap.size ok v xs) (hb : B ≤ W.heap.size) (hk : ∀ k, ok k → W.heap.size ≤ k ∧ k < w1.heap.size → ok' k) : Kd.S d e w1 B ok' v xs := Kd.S_lower (Kd.S_mono (Kd.S_bound h) (fun k h => hk k h.1 ⟨h.2.1, h.2.2.1⟩)) hb
section
variable {P : Program} {ops : Array Oper} {Q : Exit → Act → World → Prop} {md : Region.Mode} {S : World → Prop}
open Classical in
theorem evsJ_ (evs : List Nat) (tag cons : Nat → Nat) (act : (Nat → Value) → Act) (Fc : Nat → (Nat → Prop) → Value → World → Prop) (J : Array Bool → (Nat → Value) → World → Prop) (hJS : ∀ l v w, J l v w → S w) (w0 : World) (B : Nat) (l0 lall : Array Bool) (hB : evsB md ops tag cons evs l0 lall = true)
  (hmono : ∀ i, i ∈ evs → ∀ ok ok' v w, Fc i ok v w → (∀ k, ok k → ok' k) → Fc i ok' v w)
  (hmove : ∀ i, i ∈ evs → ∀ ok v w w1, Fc i ok v w → (∀ k, ok k → k < w.heap.size → w1.heap[k]? = w.heap[k]?) → Fc i ok v w1)
  (hpos : ∀ i, i ∈ evs → tag i ≠ 0)
  (hev : ∀ i, i ∈ evs → ∃ oi, ops[i]? = some oi ∧ ∀ (T : Nat → Nat) (v : Nat → Value) (w : World) (l : Array Bool), J l v w → l.size = ops.size → l.getD i true = false → (∀ j, Region.reachB md ops j ops.size i = true → l.getD j true = true) → (∀ j, j ∈ evs → Region.reachB md ops i ops.size j = true → l.getD j true = false) → Below w0.heap.size w0 w → B ≤ w.heap.size → (∀ k, T k ≠ 0 → B ≤ k ∧ k < w.heap.size) → (∀ j, j ∈ evs → l.getD j true = true → (cons j ∈ evs → l.getD (cons j) true = false) → Fc j (fun k => T k = tag j) (v j) w) →
   ∀ K : Act → World → Prop, (∀ x w1, J (l.setIfInBounds i true) (fun j => if j = i then x else v j) w1 → Below w0.heap.size w0 w1 → w.heap.size ≤ w1.heap.size → (∀ k, k < w.heap.size → T k ≠ 0 → T k ≠ tag i → w1.heap[k]? = w.heap[k]?) → Fc i (fun k => T k = tag i ∨ w.heap.size ≤ k ∧ k < w1.heap.size) x w1 → K (act (fun j => if j = i then x else v j)) w1) →
    if Region.wanted oi (yielded ops (act v).tmps) = true then Oper.wp P oi (act v) w K Q else K ((act v).put oi.dst undef) w)
  {m : Nat} (hcont : ∀ (T : Nat → Nat) (v : Nat → Value) (w : World), J lall v w → Below w0.heap.size w0 w → (∀ k, T k ≠ 0 → B ≤ k ∧ k < w.heap.size) → (∀ j, j ∈ evs → cons j ∉ evs → Fc j (fun k => T k = tag j) (v j) w) → wpAnyLast P md ops Q S [] m lall (act v) w)
  (v : Nat → Value) (w : World) (hS : J l0 v w) (hW : Below w0.heap.size w0 w) (hBw : B ≤ w.heap.size) : wpAnyLast P md ops Q S [] (m + evs.length) l0 (act v) w := by
 simp only [evsB, Bool.and_eq_true, beq_iff_eq] at hB
 obtain ⟨⟨⟨⟨⟨⟨⟨b1, b2⟩, b3⟩, b4⟩, b5⟩, b6⟩, b7⟩, b8⟩ := hB
 suffices H : ∀ (c : Nat) (l : Array Bool) (T : Nat → Nat) (v : Nat → Value) (w : World), evs.countP (fun e => !l.getD e true) ≤ c → l.size = ops.size → ListedClosed md ops l → (∀ j, j ∉ evs → l.getD j true = l0.getD j true) →
   J l v w → Below w0.heap.size w0 w → B ≤ w.heap.size → (∀ k, T k ≠ 0 → B ≤ k ∧ k < w.heap.size) → (∀ j, j ∈ evs → l.getD j true = true → (cons j ∈ evs → l.getD (cons j) true = false) → Fc j (fun k => T k = tag j) (v j) w) →
   wpAnyLast P md ops Q S [] (m + c) l (act v) w from
  H evs.length l0 (fun _ => 0) v w List.countP_le_length b1.symm (Region.closedB_spec b2) (fun _ _ => rfl) hS hW hBw (fun k hk => absurd rfl hk) (fun j hj hl _ => by
   have := List.all_eq_true.1 b7 j hj
   simp [hl] at this)
 have hall : ∀ (l : Array Bool), evs.countP (fun e => !l.getD e true) = 0 → l.size = ops.size → (∀ j, j ∉ evs → l.getD j true = l0.getD j true) → l = lall := by
  intro l hc hs ho
  rw [← b8]
  refine arr_ext (by rw [fold_size, hs, b1]) (fun j => ?_)
  rw [fold_get]
  by_cases hj : j ∈ evs
  ·rw [if_pos hj]
   have := List.countP_eq_zero.1 hc j hj
   simpa using this
  ·rw [if_neg hj]
   exact ho j hj
 have hlist : ∀ (l : Array Bool), evs.countP (fun e => !l.getD e true) = 0 → ∀ j ∈ evs, l.getD j true = true := by
  intro l hc j hj
  have := List.countP_eq_zero.1 hc j hj
  simpa using this
 intro c
 induction c with
 | zero =>
  intro l T v w hc hs hcl ho hS hW hBw hT hF
  have hc0 := Nat.le_zero.1 hc
  rw [hall l hc0 hs ho] at hS ⊢
  exact hcont T v w hS hW hT (fun j hj hcj => hF j hj (hlist l hc0 j hj) (fun h => absurd h hcj))
 | succ c ih =>
  intro l T v w hc hs hcl ho hS hW hBw hT hF
  by_cases hc0 : evs.countP (fun e => !l.getD e true) = 0
  ·rw [hall l hc0 hs ho] at hS ⊢
   exact wpAnyLast_moreN (hcont T v w hS hW hT (fun j hj hcj => hF j hj (hlist l hc0 j hj) (fun h => absurd h hcj))) _
  ·have hex : ∃ e ∈ evs, l.getD e true = false := by
    have := List.countP_pos_iff.1 (Nat.pos_of_ne_zero hc0)
    obtain ⟨e, he, h⟩ := this
    exact ⟨e, he, by simpa using h⟩
   have h0l : ∀ j, l0.getD j false = true → l.getD j false = true := by
    intro j hj
    have hlt : j < l0.size := by
     rcases Nat.lt_or_ge j l0.size with h | h
     ·exact h
     ·simp [Nat.not_lt.2 h] at hj
    have hlt' : j < l.size := by omega
    have hjt : l0.getD j true = true := by
     simp only [Array.getD_eq_getD_getElem?, Array.getElem?_eq_getElem hlt, Option.getD_some] at hj ⊢
     exact hj
    have hne : j ∉ evs := fun hj' => by
     have := List.all_eq_true.1 b7 j hj'
     rw [hjt] at this
     simp at this
    have := ho j hne
    rw [hjt] at this
    simp only [Array.getD_eq_getD_getElem?, Array.getElem?_eq_getElem hlt', Option.getD_some] at this ⊢
    exact this
   refine ⟨fun hr => absurd hr (topo_ready h0l hs [] evs b3 (fun s h => by cases h) hex), fun i hi => ?_⟩
   have hiun := (mem_ready.1 hi).1
   have hie : i ∈ evs := by
    refine Classical.byContradiction fun hie => ?_
    have hlt : i < ops.size := by
     obtain ⟨_, o, h, _⟩ := mem_ready.1 hi
     exact (Array.getElem?_eq_some_iff.1 h).1
    have h5 := List.all_eq_true.1 b5 i (List.mem_range.2 hlt)
    rw [← ho i hie, hiun, Bool.or_false, Bool.or_eq_true] at h5
    rcases h5 with h5 | h5
    ·exact hie (by simpa using h5)
    ·obtain ⟨e, he, hel⟩ := hex
     exact Region.reach_not_ready hcl (List.all_eq_true.1 h5 e he) hel hi
   obtain ⟨oi, hoi, hgo⟩ := hev i hie
   refine wpOp_step hoi (fun K' hK => ?_)
   have hpre : ∀ j, Region.reachB md ops j ops.size i = true → l.getD j true = true := fun j hj => by
    refine Classical.byContradiction fun hjl => ?_
    exact Region.reach_not_ready hcl hj (by simpa using hjl) hi
   have hpost : ∀ j, j ∈ evs → Region.reachB md ops i ops.size j = true → l.getD j true = false := fun j hje hj => by
    refine Classical.byContradiction fun hjl => ?_
    have hjl1 : l.getD j true = true := by simpa using hjl
    have hjlt : j < l.size := by
     obtain ⟨oj, h', _⟩ := hev j hje
     exact hs ▸ (Array.getElem?_eq_some_iff.1 h').1
    have hilt' : i < l.size := hs ▸ (Array.getElem?_eq_some_iff.1 hoi).1
    have hjf : l.getD j false = true := by
     simp only [Array.getD_eq_getD_getElem?, Array.getElem?_eq_getElem hjlt, Option.getD_some] at hjl1 ⊢
     exact hjl1
    have := Region.reach_listed hcl _ _ hj hjf
    simp only [Array.getD_eq_getD_getElem?, Array.getElem?_eq_getElem hilt', Option.getD_some] at this hiun
    rw [this] at hiun
    cases hiun
   refine hgo T v w l hS hs hiun hpre hpost hW hBw hT hF K' (fun x w1 hS1 hW1 hsz hkeep hFx => hK _ _ ⟨fun _ _ => hJS _ _ _ hS1, ?_⟩)
   ·have hilt : i < l.size := by
     rcases Nat.lt_or_ge i l.size with h | h
     ·exact h
     ·simp [Nat.not_lt.2 h] at hiun
    have hset : (l.setIfInBounds i true).getD i true = true := by simp [hilt]
    refine ih (l.setIfInBounds i true) (fun k => if w.heap.size ≤ k ∧ k < w1.heap.size then tag i else T k) _ w1 ?_ (by rw [Array.size_setIfInBounds]; exact hs) (hcl.set hi) (fun j hj => ?_) hS1 hW1 (Nat.le_trans hBw hsz) (fun k hk => ?_) (fun j hj hjl hcj => ?_)
    ·have := count_lt (p := fun e => !l.getD e true) (q := fun e => !(l.setIfInBounds i true).getD e true) (fun j hj => by
      by_cases hji : i = j
      ·subst hji; simp [hset] at hj
      ·rw [getD_set_ne _ hji] at hj; exact hj) (i := i) (by simpa using hiun) (by simp [hset]) hie
     omega
    ·have hne : i ≠ j := fun h => hj (h ▸ hie)
     rw [getD_set_ne _ hne]
     exact ho j hj
    ·have hk : (if w.heap.size ≤ k ∧ k < w1.heap.size then tag i else T k) ≠ 0 := hk
     split at hk
     ·rename_i h; exact ⟨Nat.le_trans hBw h.1, h.2⟩
     ·have := hT k hk; exact ⟨this.1, Nat.lt_of_lt_of_le this.2 hsz⟩
    ·by_cases hji : j = i
     ·subst hji
      rw [if_pos rfl]
      refine hmono j hj _ _ _ _ hFx (fun k hk => ?_)
      rcases hk with hk | hk
      ·have h1 : T k ≠ 0 := by rw [hk]; exact hpos j hj
       rw [if_neg (fun h => by have := (hT k h1).2; omega)]
       exact hk
      ·rw [if_pos hk]
     ·rw [if_neg hji]
      rw [getD_set_ne _ (Ne.symm hji)] at hjl
      have hcj' : cons j ∈ evs → l.getD (cons j) true = false := fun h => by
       have h2 := hcj h
       by_cases hci : i = cons j
       ·rw [← hci, hset] at h2; cases h2
       ·rwa [getD_set_ne _ hci] at h2
      have hold := hF j hj hjl hcj'
      have hti : tag j ≠ tag i := by
       intro hti
       have h4 := List.all_eq_true.1 (List.all_eq_true.1 b4 i hie) j hj
       simp only [Bool.or_eq_true, beq_iff_eq, bne_iff_ne, ne_eq] at h4
       rcases h4 with ((h4 | h4) | h4) | h4
       ·exact hji h4.symm
       ·exact h4 hti.symm
       ·have h2 := hcj (by rw [h4]; exact hie)
        rw [h4, hset] at h2
        cases h2
       ·have hjf : l.getD j false = true := by
         have hjlt : j < l.size := by
          rcases Nat.lt_or_ge j ops.size with h | h
          ·omega
          ·have : ∃ oj, ops[j]? = some oj := by obtain ⟨oj, h', _⟩ := hev j hj; exact ⟨oj, h'⟩
           obtain ⟨oj, h'⟩ := this
           exact hs ▸ (Array.getElem?_eq_some_iff.1 h').1
         simp only [Array.getD_eq_getD_getElem?, Array.getElem?_eq_getElem hjlt, Option.getD_some] at hjl ⊢
         exact hjl
        have := Region.reach_listed hcl _ _ h4 hjf
        simp only [Array.getD_eq_getD_getElem?, Array.getElem?_eq_getElem hilt, Option.getD_some] at this hiun
        rw [this] at hiun
        cases hiun
      refine hmono j hj _ _ _ _ (hmove j hj _ _ _ _ hold (fun k hk hlt => hkeep k hlt (by rw [hk]; exact hpos j hj) (by rw [hk]; exact hti))) (fun k hk => ?_)
      have h1 : T k ≠ 0 := by rw [hk]; exact hpos j hj
      rw [if_neg (fun h => by have := (hT k h1).2; omega)]
      exact hk
end
def Ev.B (t : TypeId) (cs : Array Value) : Ev := ⟨fun ok v w => ∃ g, v = .pointer (some ⟨g, 0, none⟩) ∧ ok g ∧ w.heap[g]? = some (.cells cs t (0, 0)), fun _ _ _ _ ⟨g, h1, h, h'⟩ hk => ⟨g, h1, hk g h, h'⟩, fun _ _ _ _ ⟨g, h1, h, h'⟩ hm => ⟨g, h1, h, (hm g h (blk_lt h')).trans h'⟩⟩
def Ev.any : Ev := ⟨fun _ _ _ => True, fun _ _ _ _ _ _ => trivial, fun _ _ _ _ _ _ => trivial⟩
theorem evsJA_ {P : Program} {ops : Array Oper} {Q : Exit → Act → World → Prop} {md : Region.Mode} {S : World → Prop} {a : Act} {w : World} {l0 : Array Bool} {n : Nat} (evs : List Nat) (tag cons : Nat → Nat) (ns : (Nat → Value) → List (Tmp × Value)) (E : Nat → Ev) (J : Array Bool → (Nat → Value) → World → Prop) (w0 : World) (B : Nat) (lall : Array Bool) (m : Nat) (hn : n = m + evs.length) (hB : evsB md ops tag cons evs l0 lall = true)
  (h0 : putAll a (ns (fun _ => undef)) = a) (hpos : ∀ i, i ∈ evs → tag i ≠ 0) (hJS : ∀ l v w, J l v w → S w) (hJ0 : J l0 (fun _ => undef) w) (hb0 : Below w0.heap.size w0 w) (hB0 : B ≤ w.heap.size)
  (hev : ∀ i, i ∈ evs → ∃ oi, ops[i]? = some oi ∧ (∀ v x, (putAll a (ns v)).put oi.dst x = putAll a (ns (fun j => if j = i then x else v j))) ∧ ∀ (T : Nat → Nat) (v : Nat → Value) (W : World) (l : Array Bool), J l v W → l.size = ops.size → l.getD i true = false → (∀ j, Region.reachB md ops j ops.size i = true → l.getD j true = true) → (∀ j, j ∈ evs → Region.reachB md ops i ops.size j = true → l.getD j true = false) → Below w0.heap.size w0 W → B ≤ W.heap.size → (∀ k, T k ≠ 0 → B ≤ k ∧ k < W.heap.size) → (∀ j, j ∈ evs → l.getD j true = true → (cons j ∈ evs → l.getD (cons j) true = false) → (E j).F (fun k => T k = tag j) (v j) W) →
   ∀ (K : Act → World → Prop) (a1 : Act), putAll a (ns v) = a1 → (∀ x w1, J (l.setIfInBounds i true) (fun j => if j = i then x else v j) w1 → Below w0.heap.size w0 w1 → W.heap.size ≤ w1.heap.size → (∀ k, k < W.heap.size → T k ≠ 0 → T k ≠ tag i → w1.heap[k]? = W.heap[k]?) → (E i).F (fun k => T k = tag i ∨ W.heap.size ≤ k ∧ k < w1.heap.size) x w1 → K (a1.put oi.dst x) w1) →
    if Region.wanted oi (yielded ops a1.tmps) = true then Oper.wp P oi a1 W K Q else K (a1.put oi.dst undef) W)
  (hcont : ∀ (T : Nat → Nat) (v : Nat → Value) (W : World), J lall v W → Below w0.heap.size w0 W → (∀ k, T k ≠ 0 → B ≤ k ∧ k < W.heap.size) → (∀ j, j ∈ evs → cons j ∉ evs → (E j).F (fun k => T k = tag j) (v j) W) → wpAnyLast P md ops Q S [] m lall (putAll a (ns v)) W) : wpAnyLast P md ops Q S [] n l0 a w := by
 subst hn
 have := evsJ_ evs tag cons (fun v => putAll a (ns v)) (fun i => (E i).F) J hJS w0 B l0 lall hB (fun i _ => (E i).mono) (fun i _ => (E i).move) hpos (fun i hi => ?_) hcont (fun _ => undef) w hJ0 hb0 hB0
 ·rw [h0] at this
  exact this
 ·obtain ⟨oi, ho, hp, h⟩ := hev i hi
  refine ⟨oi, ho, fun T v W l hJ hs hl hpre hpost hW hBW hT hF K hK => h T v W l hJ hs hl hpre hpost hW hBW hT hF K _ rfl (fun x w1 hJ1 hb hs hk hF => ?_)⟩
  rw [hp v x]
  exact hK x w1 hJ1 hb hs hk hF
theorem nnInfoS_ : (Try.prog.info? 42).map (fun i => (i.zero, i.size, i.bytes)) = some (some (.slice none 0 0), 1, 24) := by kernel_rfl
theorem nnInfoI_ : (Try.prog.info? 3).map (fun i => (i.zero, i.size, i.bytes)) = some (some (.int .i64 0), 1, 8) := by kernel_rfl
def st11_ (w : World) (g : Nat) (u0 u1 u2 u3 u4 u5 u6 u7 u8 u9 u10 : Value) : World := ((((((((((w.setCell ⟨g, 0, none⟩ u0).setCell ⟨g, 1, none⟩ u1).setCell ⟨g, 2, none⟩ u2).setCell ⟨g, 3, none⟩ u3).setCell ⟨g, 4, none⟩ u4).setCell ⟨g, 5, none⟩ u5).setCell ⟨g, 6, none⟩ u6).setCell ⟨g, 7, none⟩ u7).setCell ⟨g, 8, none⟩ u8).setCell ⟨g, 9, none⟩ u9).setCell ⟨g, 10, none⟩ u10
section
variable {w w0 : World} {g : Nat} {t : TypeId} {c0 c1 c2 c3 c4 c5 c6 c7 c8 c9 c10 u0 u1 u2 u3 u4 u5 u6 u7 u8 u9 u10 : Value}
theorem st11_blk (h : w.heap[g]? = some (.cells #[c0, c1, c2, c3, c4, c5, c6, c7, c8, c9, c10] t (0, 0))) : (st11_ w g u0 u1 u2 u3 u4 u5 u6 u7 u8 u9 u10).heap[g]? = some (.cells #[u0, u1, u2, u3, u4, u5, u6, u7, u8, u9, u10] t (0, 0)) := by
 refine blk_put (cs := #[u0, u1, u2, u3, u4, u5, u6, u7, u8, u9, c10]) ?_ 10 _ rfl
 refine blk_put (cs := #[u0, u1, u2, u3, u4, u5, u6, u7, u8, c9, c10]) ?_ 9 _ rfl
 refine blk_put (cs := #[u0, u1, u2, u3, u4, u5, u6, u7, c8, c9, c10]) ?_ 8 _ rfl
 refine blk_put (cs := #[u0, u1, u2, u3, u4, u5, u6, c7, c8, c9, c10]) ?_ 7 _ rfl
 refine blk_put (cs := #[u0, u1, u2, u3, u4, u5, c6, c7, c8, c9, c10]) ?_ 6 _ rfl
 refine blk_put (cs := #[u0, u1, u2, u3, u4, c5, c6, c7, c8, c9, c10]) ?_ 5 _ rfl
 refine blk_put (cs := #[u0, u1, u2, u3, c4, c5, c6, c7, c8, c9, c10]) ?_ 4 _ rfl
 refine blk_put (cs := #[u0, u1, u2, c3, c4, c5, c6, c7, c8, c9, c10]) ?_ 3 _ rfl
 refine blk_put (cs := #[u0, u1, c2, c3, c4, c5, c6, c7, c8, c9, c10]) ?_ 2 _ rfl
 refine blk_put (cs := #[u0, c1, c2, c3, c4, c5, c6, c7, c8, c9, c10]) ?_ 1 _ rfl
 refine blk_put (cs := #[c0, c1, c2, c3, c4, c5, c6, c7, c8, c9, c10]) ?_ 0 _ rfl
 exact h
theorem st11_far {k : Nat} (h : k ≠ g) : (st11_ w g u0 u1 u2 u3 u4 u5 u6 u7 u8 u9 u10).heap[k]? = w.heap[k]? := by
 unfold st11_
 repeat rw [Below.heap_setCell _ _ _ _ h]
theorem st11_size : (st11_ w g u0 u1 u2 u3 u4 u5 u6 u7 u8 u9 u10).heap.size = w.heap.size := by
 simp only [st11_, World.setCell, Array.size_modify]
theorem st11_below (h : Below w0.heap.size w0 w) (hg : w0.heap.size ≤ g) : Below w0.heap.size w0 (st11_ w g u0 u1 u2 u3 u4 u5 u6 u7 u8 u9 u10) := by
 unfold st11_
 repeat refine below_set ?_ hg
 exact h
end
section
variable {P : Program} {ops : Array Oper} {Q : Exit → Act → World → Prop} {md : Region.Mode} {S : World → Prop} {ds : List Nat} {oi : Oper} {v : Value} {fuel : Nat} {l : Array Bool} {a a' : Act} {w : World}
theorem spec_NetNew.pk_ (i N : Nat) (l' : Array Bool) (h : wpAnyLast P md ops Q S ds fuel l' a' w)
 (hi : ops[i]? = some oi := by rfl) (hN : oi.dst = some N := by rfl) (hc : anyB md ops l l' i = true := by kernel_rfl) (hQ : ∀ c a w, Q (.panic c) (a.put oi.dst v) w → Q (.panic c) a w := by (exact fun _ _ _ h => h)) (hw : Region.wanted oi (yielded ops a.tmps) = true := by rfl) (hy : ∀ w, (execOp a.eval oi).run P w = .ok (.value v) w := by (intro w'; go_simp; with_reducible rfl)) (ha : a.put (some N) v = a' := by (simp only [Act.put, List.setIfInBounds_toArray, List.set_cons_zero, List.set_cons_succ, i64_w, i32_w]; rfl)) : wpAnyLast P md ops Q S ds (fuel + 1) l a w := pure_ l' hi hN hc hQ (Or.inl ⟨hw, hy⟩) ha h
theorem spec_NetNew.tk_ (i N : Nat) (l' : Array Bool) (hS : S w) (h : wpAnyLast P md ops Q S ds fuel l' a' w)
 (hi : ops[i]? = some oi := by rfl) (hN : oi.dst = some N := by rfl) (hc : takeB md ops ds l l' i = true := by kernel_rfl) (hQ : ∀ c a w, Q (.panic c) (a.put oi.dst v) w → Q (.panic c) a w := by (exact fun _ _ _ h => h)) (hw : Region.wanted oi (yielded ops a.tmps) = true := by rfl) (ha : a.put (some N) v = a' := by (simp only [Act.put, List.setIfInBounds_toArray, List.set_cons_zero, List.set_cons_succ, i64_w, i32_w]; rfl)) (hy : ∀ w, S w → (execOp a.eval oi).run P w = .ok (.value v) w) : wpAnyLast P md ops Q S ds (fuel + 1) l a w := take_ l' hi hN hc hQ (Or.inl ⟨hw, hy⟩) hS ha h
end
def spec_NetNew.l0 : Nat → Int → Int → List Int → Option (List Int)
 | 0, _, _, _ => none
 | k + 1, n, i, q => if i < wrap64 (10 * n) then (if q.length < 17592186044416 then spec_NetNew.l0 k n (wrap64 (i + 1)) (q ++ [-1]) else none) else some q
def spec_NetNew.f (k : Nat) (a0_0 a0_1 : Int) (l0_2 l1_0 l1_1 : List Int) : Option (Int × Int × List Int × List Int × List Int × (List (List S72)) × List Int × List Int × (List (List S72)) × (List (List S72)) × Int × Bool) :=
 (spec_ClassesOk.f k a0_0 a0_1 l0_2 l1_0 l1_1).bind fun b => if b = true then (spec_NodeCount.f a0_0 a0_1).bind fun n => (spec_l15Mesh.f a0_0 a0_1 l0_2).bind fun m => (spec_l15Classes.f l1_0 l1_1).bind fun c => if 0 ≤ wrap64 (10 * n) ∧ (wrap64 (10 * n)).toNat ≤ 11728124029610 ∧ 0 ≤ wrap64 (5 * n) ∧ (wrap64 (5 * n)).toNat ≤ 35184372088832 ∧ 0 ≤ n ∧ n.toNat ≤ 11728124029610 then (spec_NetNew.l0 k n 0 []).bind fun q => some (m.1, m.2.1, m.2.2, c.1, c.2, List.replicate (wrap64 (10 * n)).toNat [], q, List.replicate (wrap64 (5 * n)).toNat 0, List.replicate n.toNat [], List.replicate n.toNat [], 0, true) else none else some (0, 0, [], [], [], [], [], [], [], [], 0, false)
theorem spec_NetNew.calls (k : Nat) (a0_0 : Int) (a0_1 : Int) (A0_2 : Option Addr) (c0_2 : Nat) (l0_2 : List Int) (A1_0 : Option Addr) (c1_0 : Nat) (l1_0 : List Int) (A1_1 : Option Addr) (c1_1 : Nat) (l1_1 : List Int) (r1 : Int) (r2 : Int) (r3 : List Int) (r4 : List Int) (r5 : List Int) (r6 : List (List S72)) (r7 : List Int) (r8 : List Int) (r9 : List (List S72)) (r10 : List (List S72)) (r11 : Int) (r12 : Bool) (w : World) (hr0_2 : Kd.C (Kd.int .i64) w A0_2 l0_2.length l0_2) (hc0_2 : l0_2.length ≤ c0_2) (hr1_0 : Kd.C (Kd.int .i64) w A1_0 l1_0.length l1_0) (hc1_0 : l1_0.length ≤ c1_0) (hr1_1 : Kd.C (Kd.int .i64) w A1_1 l1_1.length l1_1) (hc1_1 : l1_1.length ≤ c1_1) (h : spec_NetNew.f k a0_0 a0_1 l0_2 l1_0 l1_1 = some (r1, r2, r3, r4, r5, r6, r7, r8, r9, r10, r11, r12)) :
  Calls Try.prog 32 #[.agg #[.int .i64 a0_0, .int .i64 a0_1, .slice A0_2 l0_2.length c0_2], .agg #[.slice A1_0 l1_0.length c1_0, .slice A1_1 l1_1.length c1_1]] w fun e w' => ∃ (T_ : Nat → Nat) (v2_ v3_ v4_ v5_ v6_ v7_ v8_ v9_ : Value), e = .returned (.tuple #[.agg #[.int .i64 r1, .int .i64 r2, v2_, v3_, v4_, v5_, v6_, v7_, v8_, v9_, .int .i64 r11], .bool r12]) ∧ Marks T_ w.heap.size w' v2_ v3_ v4_ v5_ v6_ v7_ v8_ v9_ r3 r4 r5 r6 r7 r8 r9 r10 ∧ Below w.heap.size w w' := by
 have HR0_2 := am hr0_2
 have HC0_2 := am hc0_2
 have HR1_0 := am hr1_0
 have HC1_0 := am hc1_0
 have HR1_1 := am hr1_1
 have HC1_1 := am hc1_1
 have HB := am (Below.refl w.heap.size w)
 unfold spec_NetNew.f at h
 obtain ⟨b, e1, h1⟩ := Option.bind_eq_some_iff.1 h
 have E1 := am e1
 have H' := am h1
 clear h h1 e1 hr0_2 hc0_2 hr1_0 hc1_0 hr1_1 hc1_1
 have hu35 := Try.underlying35
 have hu28 := Try.underlying28
 have hu32 := Try.underlying32
 have hug := Try.underlying25
 go_enter Try.func32, Try.ntmps32
 go_upto_region 1 with (first | ((with_reducible refine gate_dst (N := 2) rfl ?_); refine bx_ 2 #[.int .i64 a0_0, .int .i64 a0_1, .slice A0_2 l0_2.length c0_2] 28 ?_; intro gm hg w1 hbox hb; have BM := am hbox; have GM := am (show w.heap.size ≤ gm by rw [hg]; exact (bz_ HB.out)); replace HB := h9_ HB hb; clear hb hbox hg) | ((with_reducible refine gate_dst (N := 3) rfl ?_); refine bx_ 3 #[.slice A1_0 l1_0.length c1_0, .slice A1_1 l1_1.length c1_1] 32 ?_; intro gt hg w1 hbox hb; have BT := am hbox; have NMT := am (show gm ≠ gt by have h_ := blk_lt BM.out; omega); replace BM := kb_ BM hb; replace HB := h9_ HB hb; clear hb hbox hg) | ((with_reducible refine gate_dst (N := 4) rfl ?_); refine bx_ 4 #[.int .i64 0, .int .i64 0, .slice none 0 0, .slice none 0 0, .slice none 0 0, .slice none 0 0, .slice none 0 0, .slice none 0 0, .slice none 0 0, .slice none 0 0, .int .i64 0] 35 ?_; intro g4 hg w1 hbox hb; have B4 := am hbox; have G4 := am (show w.heap.size ≤ g4 by rw [hg]; exact (bz_ HB.out)); have NM4 := am (show gm ≠ g4 by have h_ := blk_lt BM.out; omega); have NT4 := am (show gt ≠ g4 by have h_ := blk_lt BT.out; omega); replace BM := kb_ BM hb; replace BT := kb_ BT hb; replace HB := h9_ HB hb; clear hb hbox hg))
 have y0 : w1.cell? ⟨gm, 0, none⟩ = some (.int .i64 a0_0) := (blk_cell BM.out 0).trans rfl
 have y1 : w1.cell? ⟨gm, 1, none⟩ = some (.int .i64 a0_1) := (blk_cell BM.out 1).trans rfl
 have y2 : w1.cell? ⟨gm, 2, none⟩ = some (.slice A0_2 l0_2.length c0_2) := (blk_cell BM.out 2).trans rfl
 have y3 : w1.cell? ⟨gt, 0, none⟩ = some (.slice A1_0 l1_0.length c1_0) := (blk_cell BT.out 0).trans rfl
 have y4 : w1.cell? ⟨gt, 1, none⟩ = some (.slice A1_1 l1_1.length c1_1) := (blk_cell BT.out 1).trans rfl
 go_upto_if 12 with (first | (go_at_call 59; (with_reducible refine (spec_ClassesOk.calls k a0_0 a0_1 _ _ l0_2 _ _ l1_0 _ _ l1_1 b _ ?s0 HC0_2.out ?s1 HC1_0.out ?s2 HC1_1.out E1.out).mono ?_); (case s0 => exact cb_ HR0_2.out HB.out); (case s1 => exact cb_ HR1_0.out HB.out); (case s2 => exact cb_ HR1_1.out HB.out); rintro e w2 ⟨rfl, hb⟩; replace BM := kb_ BM hb; replace BT := kb_ BT hb; replace B4 := kb_ B4 hb; replace HB := h9_ HB hb; clear hb y0 y1 y2 y3 y4))
 cases b
 ·have H := H'.out
  rw [if_neg (by decide)] at H
  simp only [Option.some.injEq, Prod.mk.injEq] at H
  obtain ⟨rfl, rfl, rfl, rfl, rfl, rfl, rfl, rfl, rfl, rfl, rfl, rfl⟩ := H
  obtain ⟨z0, z1, z2, z3, z4, z5, z6, z7, z8, z9, z10, f0, f1, f2, f3, f4, f5, f6, f7, f8, f9, f10⟩ := cz11_ B4.out
  go_wp2
  clear z0 z1 z2 z3 z4 z5 z6 z7 z8 z9 z10 f0 f1 f2 f3 f4 f5 f6 f7 f8 f9 f10
  change bodyPost _ _ _ _ _ (st11_ _ g4 (.int .i64 0) (.int .i64 0) (.slice none 0 0) (.slice none 0 0) (.slice none 0 0) (.slice none 0 0) (.slice none 0 0) (.slice none 0 0) (.slice none 0 0) (.slice none 0 0) (.int .i64 0))
  replace HB := am (st11_below HB.out G4.out : Below w.heap.size w (st11_ _ g4 (.int .i64 0) (.int .i64 0) (.slice none 0 0) (.slice none 0 0) (.slice none 0 0) (.slice none 0 0) (.slice none 0 0) (.slice none 0 0) (.slice none 0 0) (.slice none 0 0) (.int .i64 0)))
  replace B4 := am (st11_blk B4.out : (st11_ _ g4 (.int .i64 0) (.int .i64 0) (.slice none 0 0) (.slice none 0 0) (.slice none 0 0) (.slice none 0 0) (.slice none 0 0) (.slice none 0 0) (.slice none 0 0) (.slice none 0 0) (.int .i64 0)).heap[g4]? = _)
  generalize st11_ _ g4 (.int .i64 0) (.int .i64 0) (.slice none 0 0) (.slice none 0 0) (.slice none 0 0) (.slice none 0 0) (.slice none 0 0) (.slice none 0 0) (.slice none 0 0) (.slice none 0 0) (.int .i64 0) = w9 at *
  refine bodyPost_ret (results_ct rfl _ _ g4 35 _ (0, 0) _ rfl (bq_ B4.out) Try.underlying35 rfl (by kernel_rfl)) rfl ?_
  exact ⟨fun _ => 0, _, _, _, _, _, _, _, _, rfl, ⟨fun k h_ => absurd rfl h_, fun k h_ => absurd rfl h_, Kd.R_nil _ _ _ _ _, Kd.R_nil _ _ _ _ _, Kd.R_nil _ _ _ _ _, Kd.S_nil _ _ _ _ _, Kd.R_nil _ _ _ _ _, Kd.R_nil _ _ _ _ _, Kd.S_nil _ _ _ _ _, Kd.S_nil _ _ _ _ _⟩, bb_ HB.out⟩
 ·have H := H'.out
  rw [if_pos rfl] at H
  obtain ⟨n, e2, h2⟩ := Option.bind_eq_some_iff.1 H
  obtain ⟨⟨m1, m2, m3⟩, e3, h3⟩ := Option.bind_eq_some_iff.1 h2
  obtain ⟨⟨n1, n2⟩, e4, h4⟩ := Option.bind_eq_some_iff.1 h3
  dsimp only at h4
  by_cases cb : 0 ≤ wrap64 (10 * n) ∧ (wrap64 (10 * n)).toNat ≤ 11728124029610 ∧ 0 ≤ wrap64 (5 * n) ∧ (wrap64 (5 * n)).toNat ≤ 35184372088832 ∧ 0 ≤ n ∧ n.toNat ≤ 11728124029610
  rotate_left
  ·rw [if_neg cb] at h4; cases h4
  rw [if_pos cb] at h4
  obtain ⟨qo, e5, h5⟩ := Option.bind_eq_some_iff.1 h4
  obtain ⟨L10, p10⟩ : ∃ y_, y_ = List.replicate (wrap64 (10 * n)).toNat ([] : List S72) := ⟨_, rfl⟩
  obtain ⟨L5, p5⟩ : ∃ y_, y_ = List.replicate (wrap64 (5 * n)).toNat (0 : Int) := ⟨_, rfl⟩
  obtain ⟨Ln, pn⟩ : ∃ y_, y_ = List.replicate n.toNat ([] : List S72) := ⟨_, rfl⟩
  rw [← p10, ← p5, ← pn] at h5
  simp only [Option.some.injEq, Prod.mk.injEq] at h5
  obtain ⟨rfl, rfl, rfl, rfl, rfl, rfl, rfl, rfl, rfl, rfl, rfl, rfl⟩ := h5
  have E2 := am e2
  have E3 := am e3
  have E4 := am e4
  have E5 := am e5
  have CB := am cb
  have P10 := am p10
  have P5 := am p5
  have Pn := am pn
  clear H H' h2 h3 h4 e2 e3 e4 e5 cb p10 p5 pn
  have y0 : w2.cell? ⟨gm, 0, none⟩ = some (.int .i64 a0_0) := (blk_cell BM.out 0).trans rfl
  have y1 : w2.cell? ⟨gm, 1, none⟩ = some (.int .i64 a0_1) := (blk_cell BM.out 1).trans rfl
  have y2 : w2.cell? ⟨gm, 2, none⟩ = some (.slice A0_2 l0_2.length c0_2) := (blk_cell BM.out 2).trans rfl
  have y3 : w2.cell? ⟨gt, 0, none⟩ = some (.slice A1_0 l1_0.length c1_0) := (blk_cell BT.out 0).trans rfl
  have y4 : w2.cell? ⟨gt, 1, none⟩ = some (.slice A1_1 l1_1.length c1_1) := (blk_cell BT.out 1).trans rfl
  go_upto_region 4 with (first | (go_at_call 57; (with_reducible refine (spec_NodeCount.calls a0_0 a0_1 n _ E2.out).mono ?_); rintro e w3 ⟨rfl, hb⟩; replace BM := kb_ BM hb; replace BT := kb_ BT hb; replace B4 := kb_ B4 hb; replace HB := h9_ HB hb; clear hb y0 y1 y2 y3 y4))
  have y0 : w3.cell? ⟨gm, 0, none⟩ = some (.int .i64 a0_0) := (blk_cell BM.out 0).trans rfl
  have y1 : w3.cell? ⟨gm, 1, none⟩ = some (.int .i64 a0_1) := (blk_cell BM.out 1).trans rfl
  have y2 : w3.cell? ⟨gm, 2, none⟩ = some (.slice A0_2 l0_2.length c0_2) := (blk_cell BM.out 2).trans rfl
  have y3 : w3.cell? ⟨gt, 0, none⟩ = some (.slice A1_0 l1_0.length c1_0) := (blk_cell BT.out 0).trans rfl
  have y4 : w3.cell? ⟨gt, 1, none⟩ = some (.slice A1_1 l1_1.length c1_1) := (blk_cell BT.out 1).trans rfl
  refine start_ (n := 17) (S := fun w' => w'.cell? ⟨gm, 0, none⟩ = some (.int .i64 a0_0) ∧ w'.cell? ⟨gm, 1, none⟩ = some (.int .i64 a0_1) ∧ w'.cell? ⟨gm, 2, none⟩ = some (.slice A0_2 l0_2.length c0_2) ∧ w'.cell? ⟨gt, 0, none⟩ = some (.slice A1_0 l1_0.length c1_0) ∧ w'.cell? ⟨gt, 1, none⟩ = some (.slice A1_1 l1_1.length c1_1)) (ds := []) #[false, false, false, false, false, false, false, false, false, false, false, false, false, false, false, false, false] (by kernel_rfl) rfl rfl ⟨y0, y1, y2, y3, y4⟩ (fun hHeld => ?_)
  clear y0 y1 y2 y3 y4
  replace BM := am (bq_ BM.out : w3.drew.heap[gm]? = some _)
  replace BT := am (bq_ BT.out : w3.drew.heap[gt]? = some _)
  replace B4 := am (bq_ B4.out : w3.drew.heap[g4]? = some _)
  replace HB := am (bb_ HB.out : Below w.heap.size w w3.drew)
  generalize w3.drew = w4 at *
  refine spec_NetNew.tk_ (v := .agg #[.int .i64 a0_0, .int .i64 a0_1, .slice A0_2 l0_2.length c0_2]) 0 17 (bt_ 17 1) hHeld ?_ (hy := by rintro w' ⟨s0, s1, s2, s3, s4⟩; go_simp)
  refine spec_NetNew.tk_ (v := .agg #[.slice A1_0 l1_0.length c1_0, .slice A1_1 l1_1.length c1_1]) 2 19 (bt_ 17 5) hHeld ?_ (hy := by rintro w' ⟨s0, s1, s2, s3, s4⟩; go_simp)
  refine spec_NetNew.pk_ 4 21 (bt_ 17 21) ?_
  refine spec_NetNew.pk_ 5 22 (bt_ 17 53) ?_
  refine spec_NetNew.pk_ 7 24 (bt_ 17 181) ?_
  refine spec_NetNew.pk_ 8 25 (bt_ 17 437) ?_
  refine spec_NetNew.pk_ 10 27 (bt_ 17 1461) ?_
  refine spec_NetNew.pk_ 12 29 (bt_ 17 5557) ?_
  have hSS : ∀ w1, Below w4.heap.size w4 w1 → (w1.cell? ⟨gm, 0, none⟩ = some (.int .i64 a0_0) ∧ w1.cell? ⟨gm, 1, none⟩ = some (.int .i64 a0_1) ∧ w1.cell? ⟨gm, 2, none⟩ = some (.slice A0_2 l0_2.length c0_2) ∧ w1.cell? ⟨gt, 0, none⟩ = some (.slice A1_0 l1_0.length c1_0) ∧ w1.cell? ⟨gt, 1, none⟩ = some (.slice A1_1 l1_1.length c1_1)) := fun w1 hb => ⟨(blk_cell (bk_ BM.out hb) 0).trans rfl, (blk_cell (bk_ BM.out hb) 1).trans rfl, (blk_cell (bk_ BM.out hb) 2).trans rfl, (blk_cell (bk_ BT.out hb) 0).trans rfl, (blk_cell (bk_ BT.out hb) 1).trans rfl⟩
  have hTE : True := trivial
  refine evsJA_ [1, 3, 6, 9, 11, 13, 14, 15] (fun i => match i with | 1 => 2 | 3 => 3 | 6 => 5 | 9 => 7 | 11 => 8 | 13 => 9 | 14 => 10 | 15 => 11 | _ => 12) (fun _ => 100) (fun v => [(18, v 1), (20, v 3), (23, v 6), (26, v 9), (28, v 11), (30, v 13), (31, v 14), (7, v 15)]) (fun i => match i with | 1 => Ev.A1 3 w4.heap.size (.int .i64 m1) (.int .i64 m2) m3 | 3 => Ev.A2 3 w4.heap.size n1 n2 | 6 => Ev.S (Kd.slice 72 k72) 42 w4.heap.size L10 | 9 => Ev.R (Kd.int .i64) 3 w4.heap.size L5 | 11 => Ev.S (Kd.slice 72 k72) 42 w4.heap.size Ln | 13 => Ev.S (Kd.slice 72 k72) 42 w4.heap.size Ln | 14 => Ev.any | 15 => Ev.B 35 #[.int .i64 0, .int .i64 0, .slice none 0 0, .slice none 0 0, .slice none 0 0, .slice none 0 0, .slice none 0 0, .slice none 0 0, .slice none 0 0, .slice none 0 0, .int .i64 0] | _ => Ev.no) (fun l v W => (W.cell? ⟨gm, 0, none⟩ = some (.int .i64 a0_0) ∧ W.cell? ⟨gm, 1, none⟩ = some (.int .i64 a0_1) ∧ W.cell? ⟨gm, 2, none⟩ = some (.slice A0_2 l0_2.length c0_2) ∧ W.cell? ⟨gt, 0, none⟩ = some (.slice A1_0 l1_0.length c1_0) ∧ W.cell? ⟨gt, 1, none⟩ = some (.slice A1_1 l1_1.length c1_1)) ∧ (l.getD 14 true = true → ∀ u1 u3 u4 : Value, v 1 = .agg #[.int .i64 m1, .int .i64 m2, u1] → v 3 = .agg #[u3, u4] → v 14 = .agg #[.int .i64 m1, .int .i64 m2, u1, u3, u4, v 6, .slice none 0 0, v 9, v 11, v 13, .int .i64 0])) w4 w4.heap.size (bt_ 17 65535) 1 rfl (by kernel_rfl) (by simp only [putAll, Act.put, List.setIfInBounds_toArray, List.set_cons_zero, List.set_cons_succ]; first | done | rfl) ?hpos (fun _ _ _ h_ => h_.1) ⟨hSS _ (Below.refl _ _), fun h_ => absurd h_ (by decide)⟩ (Below.refl _ _) (Nat.le_refl _) ?hev ?hcont
  case hpos => decide
  case hev =>
   intro i hi
   simp only [List.mem_cons, List.not_mem_nil, or_false] at hi
   rcases hi with rfl | rfl | rfl | rfl | rfl | rfl | rfl | rfl
   ·refine ⟨_, rfl, fun v x => (by simp only [putAll, Act.put, List.setIfInBounds_toArray, List.set_cons_zero, List.set_cons_succ, Nat.reduceEqDiff, ↓reduceIte]; first | done | rfl), fun T v W l hJ hs hl hpre hpost hW hBW hT hF K a1 ha hK => ?_⟩
    simp only [putAll, Act.put, List.setIfInBounds_toArray, List.set_cons_zero, List.set_cons_succ] at ha
    subst ha
    have HBW := am (bs_ HB.out hW)
    have h14 : l.getD 14 true = false := hpost 14 (by decide) (by kernel_rfl)
    refine gs_ Try.func60 #[.agg #[.int .i64 a0_0, .int .i64 a0_1, .slice A0_2 l0_2.length c0_2]] ?_
    with_reducible refine (spec_l15Mesh.calls a0_0 a0_1 _ _ l0_2 m1 m2 m3 _ ?s0 HC0_2.out E3.out).mono ?_
    (case s0 => exact cb_ HR0_2.out HBW.out)
    rintro e w1 ⟨u_, rfl, h_, hb⟩
    exact ⟨_, rfl, hK _ w1 ⟨hSS _ (bs_ hW hb), fun h_ => by rw [getD_set_ne _ (by decide), h14] at h_; cases h_⟩ (bs_ hW hb) hb.size (fun k_ hl_ _ _ => hb.block k_ hl_) ⟨u_, rfl, rq_ h_ hBW (fun k_ h1_ h_ => Or.inr h_)⟩⟩
   ·refine ⟨_, rfl, fun v x => (by simp only [putAll, Act.put, List.setIfInBounds_toArray, List.set_cons_zero, List.set_cons_succ, Nat.reduceEqDiff, ↓reduceIte]; first | done | rfl), fun T v W l hJ hs hl hpre hpost hW hBW hT hF K a1 ha hK => ?_⟩
    simp only [putAll, Act.put, List.setIfInBounds_toArray, List.set_cons_zero, List.set_cons_succ] at ha
    subst ha
    have HBW := am (bs_ HB.out hW)
    have h14 : l.getD 14 true = false := hpost 14 (by decide) (by kernel_rfl)
    refine gs_ Try.func61 #[.agg #[.slice A1_0 l1_0.length c1_0, .slice A1_1 l1_1.length c1_1]] ?_
    with_reducible refine (spec_l15Classes.calls _ _ l1_0 _ _ l1_1 n1 n2 _ ?s0 HC1_0.out ?s1 HC1_1.out E4.out).mono ?_
    (case s0 => exact cb_ HR1_0.out HBW.out)
    (case s1 => exact cb_ HR1_1.out HBW.out)
    rintro e w1 ⟨u_, u1_, rfl, h_, h1_, hb⟩
    exact ⟨_, rfl, hK _ w1 ⟨hSS _ (bs_ hW hb), fun h_ => by rw [getD_set_ne _ (by decide), h14] at h_; cases h_⟩ (bs_ hW hb) hb.size (fun k_ hl_ _ _ => hb.block k_ hl_) ⟨u_, u1_, rfl, rq_ h_ hBW (fun k_ g_ q_ => ⟨Or.inr q_, g_⟩), rq_ h1_ hBW (fun k_ g_ q_ => ⟨Or.inr q_, g_⟩)⟩⟩
   ·refine ⟨_, rfl, fun v x => (by simp only [putAll, Act.put, List.setIfInBounds_toArray, List.set_cons_zero, List.set_cons_succ, Nat.reduceEqDiff, ↓reduceIte]; first | done | rfl), fun T v W l hJ hs hl hpre hpost hW hBW hT hF K a1 ha hK => ?_⟩
    simp only [putAll, Act.put, List.setIfInBounds_toArray, List.set_cons_zero, List.set_cons_succ] at ha
    subst ha
    have HBW := am (bs_ HB.out hW)
    have h14 : l.getD 14 true = false := hpost 14 (by decide) (by kernel_rfl)
    refine Kd.S_make_step (Kd.slice 72 k72) _ 42 (by rfl) (N := 23) rfl 33 _ _ rfl (wrap64 (10 * n)) rfl rfl Try.underlying33 (.slice none 0 0) 24 nnInfoS_ rfl (by decide) (by omega) [] (ok := fun _ => True) (okp := fun _ => True) ⟨_, rfl, Kd.R_nil _ _ _ _ _⟩ (fun _ hk => hk) trivial CB.out.1 (Nat.le_trans (Nat.mul_le_mul_right _ CB.out.2.1) (by omega)) (Below.refl _ _) (Nat.le_refl _) ?_
    intro x_ w1 h_ hb _ _
    rw [← P10.out] at h_
    exact hK _ w1 ⟨hSS _ (bs_ hW hb), fun h_ => by rw [getD_set_ne _ (by decide), h14] at h_; cases h_⟩ (bs_ hW hb) hb.size (fun k_ hl_ _ _ => hb.block k_ hl_) (sqq_ h_ hBW (fun k_ g_ q_ => Or.inr q_))
   ·refine ⟨_, rfl, fun v x => (by simp only [putAll, Act.put, List.setIfInBounds_toArray, List.set_cons_zero, List.set_cons_succ, Nat.reduceEqDiff, ↓reduceIte]; first | done | rfl), fun T v W l hJ hs hl hpre hpost hW hBW hT hF K a1 ha hK => ?_⟩
    simp only [putAll, Act.put, List.setIfInBounds_toArray, List.set_cons_zero, List.set_cons_succ] at ha
    subst ha
    have HBW := am (bs_ HB.out hW)
    have h14 : l.getD 14 true = false := hpost 14 (by decide) (by kernel_rfl)
    refine Kd.R_make_step (Kd.int .i64) _ 3 (by rfl) (N := 26) rfl 26 _ _ rfl (wrap64 (5 * n)) rfl rfl Try.underlying26 (.int .i64 0) 8 nnInfoI_ rfl (by decide) (by omega) 0 (ok := fun _ => True) (okp := fun _ => True) rfl (fun _ hk => hk) trivial CB.out.2.2.1 (Nat.le_trans (Nat.mul_le_mul_right _ CB.out.2.2.2.1) (by omega)) (Below.refl _ _) (Nat.le_refl _) ?_
    intro x_ w1 h_ hb _ _
    rw [← P5.out] at h_
    exact hK _ w1 ⟨hSS _ (bs_ hW hb), fun h_ => by rw [getD_set_ne _ (by decide), h14] at h_; cases h_⟩ (bs_ hW hb) hb.size (fun k_ hl_ _ _ => hb.block k_ hl_) (rq_ h_ hBW (fun k_ g_ q_ => Or.inr q_))
   ·refine ⟨_, rfl, fun v x => (by simp only [putAll, Act.put, List.setIfInBounds_toArray, List.set_cons_zero, List.set_cons_succ, Nat.reduceEqDiff, ↓reduceIte]; first | done | rfl), fun T v W l hJ hs hl hpre hpost hW hBW hT hF K a1 ha hK => ?_⟩
    simp only [putAll, Act.put, List.setIfInBounds_toArray, List.set_cons_zero, List.set_cons_succ] at ha
    subst ha
    have HBW := am (bs_ HB.out hW)
    have h14 : l.getD 14 true = false := hpost 14 (by decide) (by kernel_rfl)
    refine Kd.S_make_step (Kd.slice 72 k72) _ 42 (by rfl) (N := 28) rfl 33 _ _ rfl (n) rfl rfl Try.underlying33 (.slice none 0 0) 24 nnInfoS_ rfl (by decide) (by omega) [] (ok := fun _ => True) (okp := fun _ => True) ⟨_, rfl, Kd.R_nil _ _ _ _ _⟩ (fun _ hk => hk) trivial CB.out.2.2.2.2.1 (Nat.le_trans (Nat.mul_le_mul_right _ CB.out.2.2.2.2.2) (by omega)) (Below.refl _ _) (Nat.le_refl _) ?_
    intro x_ w1 h_ hb _ _
    rw [← Pn.out] at h_
    exact hK _ w1 ⟨hSS _ (bs_ hW hb), fun h_ => by rw [getD_set_ne _ (by decide), h14] at h_; cases h_⟩ (bs_ hW hb) hb.size (fun k_ hl_ _ _ => hb.block k_ hl_) (sqq_ h_ hBW (fun k_ g_ q_ => Or.inr q_))
   ·refine ⟨_, rfl, fun v x => (by simp only [putAll, Act.put, List.setIfInBounds_toArray, List.set_cons_zero, List.set_cons_succ, Nat.reduceEqDiff, ↓reduceIte]; first | done | rfl), fun T v W l hJ hs hl hpre hpost hW hBW hT hF K a1 ha hK => ?_⟩
    simp only [putAll, Act.put, List.setIfInBounds_toArray, List.set_cons_zero, List.set_cons_succ] at ha
    subst ha
    have HBW := am (bs_ HB.out hW)
    have h14 : l.getD 14 true = false := hpost 14 (by decide) (by kernel_rfl)
    refine Kd.S_make_step (Kd.slice 72 k72) _ 42 (by rfl) (N := 30) rfl 33 _ _ rfl (n) rfl rfl Try.underlying33 (.slice none 0 0) 24 nnInfoS_ rfl (by decide) (by omega) [] (ok := fun _ => True) (okp := fun _ => True) ⟨_, rfl, Kd.R_nil _ _ _ _ _⟩ (fun _ hk => hk) trivial CB.out.2.2.2.2.1 (Nat.le_trans (Nat.mul_le_mul_right _ CB.out.2.2.2.2.2) (by omega)) (Below.refl _ _) (Nat.le_refl _) ?_
    intro x_ w1 h_ hb _ _
    rw [← Pn.out] at h_
    exact hK _ w1 ⟨hSS _ (bs_ hW hb), fun h_ => by rw [getD_set_ne _ (by decide), h14] at h_; cases h_⟩ (bs_ hW hb) hb.size (fun k_ hl_ _ _ => hb.block k_ hl_) (sqq_ h_ hBW (fun k_ g_ q_ => Or.inr q_))
   ·refine ⟨_, rfl, fun v x => (by simp only [putAll, Act.put, List.setIfInBounds_toArray, List.set_cons_zero, List.set_cons_succ, Nat.reduceEqDiff, ↓reduceIte]; first | done | rfl), fun T v W l hJ hs hl hpre hpost hW hBW hT hF K a1 ha hK => ?_⟩
    simp only [putAll, Act.put, List.setIfInBounds_toArray, List.set_cons_zero, List.set_cons_succ] at ha
    subst ha
    have HBW := am (bs_ HB.out hW)
    obtain ⟨u1, e1, _⟩ := hF 1 (by decide) (hpre 1 (by kernel_rfl)) (fun h_ => absurd h_ (by decide))
    obtain ⟨u3, u4, e3, _, _⟩ := hF 3 (by decide) (hpre 3 (by kernel_rfl)) (fun h_ => absurd h_ (by decide))
    obtain ⟨X6, d6, e6⟩ := Kd.S_slice (hF 6 (by decide) (hpre 6 (by kernel_rfl)) (fun h_ => absurd h_ (by decide)))
    obtain ⟨X9, d9, e9⟩ := Kd.R_slice (hF 9 (by decide) (hpre 9 (by kernel_rfl)) (fun h_ => absurd h_ (by decide)))
    obtain ⟨X11, d11, e11⟩ := Kd.S_slice (hF 11 (by decide) (hpre 11 (by kernel_rfl)) (fun h_ => absurd h_ (by decide)))
    obtain ⟨X13, d13, e13⟩ := Kd.S_slice (hF 13 (by decide) (hpre 13 (by kernel_rfl)) (fun h_ => absurd h_ (by decide)))
    rw [e1, e3, e6, e9, e11, e13] at hK ⊢
    refine value_ (w1 := W) (v := .agg #[.int .i64 m1, .int .i64 m2, u1, u3, u4, .slice X6 L10.length d6, .slice none 0 0, .slice X9 L5.length d9, .slice X11 Ln.length d11, .slice X13 Ln.length d13, .int .i64 0]) (by rfl) rfl (by go_simp) ?_
    refine hK _ W ⟨hSS _ hW, fun _ u1' u3' u4' h1 h3 => ?_⟩ hW (Nat.le_refl _) (fun _ _ _ _ => rfl) trivial
    simp only [Nat.reduceEqDiff, ↓reduceIte] at h1 h3 ⊢
    rw [e1] at h1
    rw [e3] at h3
    obtain rfl : u1 = u1' := by simpa using h1
    obtain ⟨rfl, rfl⟩ : u3 = u3' ∧ u4 = u4' := by simpa using h3
    rw [e6, e9, e11, e13]
   ·refine ⟨_, rfl, fun v x => (by simp only [putAll, Act.put, List.setIfInBounds_toArray, List.set_cons_zero, List.set_cons_succ, Nat.reduceEqDiff, ↓reduceIte]; first | done | rfl), fun T v W l hJ hs hl hpre hpost hW hBW hT hF K a1 ha hK => ?_⟩
    simp only [putAll, Act.put, List.setIfInBounds_toArray, List.set_cons_zero, List.set_cons_succ] at ha
    subst ha
    have HBW := am (bs_ HB.out hW)
    refine value_ (w1 := W.alloc (.cells #[.int .i64 0, .int .i64 0, .slice none 0 0, .slice none 0 0, .slice none 0 0, .slice none 0 0, .slice none 0 0, .slice none 0 0, .slice none 0 0, .slice none 0 0, .int .i64 0] 35 (0, 0))) (v := .pointer (some ⟨W.heap.size, 0, none⟩)) (by rfl) rfl (by go_simp; first | done | rfl) ?_
    have hb := below_alloc (Below.refl W.heap.size W) (.cells #[.int .i64 0, .int .i64 0, .slice none 0 0, .slice none 0 0, .slice none 0 0, .slice none 0 0, .slice none 0 0, .slice none 0 0, .slice none 0 0, .slice none 0 0, .int .i64 0] 35 (0, 0))
    refine hK _ _ ⟨hSS _ (bs_ hW hb), fun h_ => ?_⟩ (bs_ hW hb) hb.size (fun k_ hl_ _ _ => hb.block k_ hl_) ⟨_, rfl, Or.inr ⟨Nat.le_refl _, blk_lt (blk_new W _)⟩, blk_new W _⟩
    rw [getD_set_ne _ (by decide)] at h_
    simpa only [Nat.reduceEqDiff, ↓reduceIte] using hJ.2 h_
  case hcont =>
   intro T v W hJ hW hT hF
   obtain ⟨u2, e1, F2⟩ := hF 1 (by decide) (by decide)
   obtain ⟨u3, u4, e3, F3, F4⟩ := hF 3 (by decide) (by decide)
   obtain ⟨g, e15, tg, hg⟩ := hF 15 (by decide) (by decide)
   have e14 := hJ.2 (by kernel_rfl) u2 u3 u4 e1 e3
   have F5 := hF 6 (by decide) (by decide)
   obtain ⟨u5, e6⟩ : ∃ u_, v 6 = u_ := ⟨_, rfl⟩
   replace F5 : (Ev.S (Kd.slice 72 k72) 42 w4.heap.size L10).F (fun k => T k = 5) u5 W := by have := F5; rw [e6] at this; exact this
   have F7 := hF 9 (by decide) (by decide)
   obtain ⟨u7, e9⟩ : ∃ u_, v 9 = u_ := ⟨_, rfl⟩
   replace F7 : (Ev.R (Kd.int .i64) 3 w4.heap.size L5).F (fun k => T k = 7) u7 W := by have := F7; rw [e9] at this; exact this
   have F8 := hF 11 (by decide) (by decide)
   obtain ⟨u8, e11⟩ : ∃ u_, v 11 = u_ := ⟨_, rfl⟩
   replace F8 : (Ev.S (Kd.slice 72 k72) 42 w4.heap.size Ln).F (fun k => T k = 8) u8 W := by have := F8; rw [e11] at this; exact this
   have F9 := hF 13 (by decide) (by decide)
   obtain ⟨u9, e13⟩ : ∃ u_, v 13 = u_ := ⟨_, rfl⟩
   replace F9 : (Ev.S (Kd.slice 72 k72) 42 w4.heap.size Ln).F (fun k => T k = 9) u9 W := by have := F9; rw [e13] at this; exact this
   rw [e6, e9, e11, e13] at e14
   have hT2 : ∀ n_, n_ ≠ 0 → n_ ≠ 11 → ∀ k_, T k_ = n_ → (if T k_ = 11 then 0 else T k_) = n_ := fun n_ h0 h1 k_ e_ => by rw [if_neg (by omega)]; exact e_
   obtain ⟨TT, hT0, hM⟩ := marks_tag0 (T := fun k_ => if T k_ = 11 then 0 else T k_) (fun k_ h_ => hT k_ (fun e_ => h_ (by show (if T k_ = 11 then 0 else T k_) = 0; split <;> omega))) (Kd.R_mono F2 (hT2 2 (by decide) (by decide))) (Kd.R_mono F3 (fun k_ h_ => ⟨hT2 3 (by decide) (by decide) k_ h_.1, h_.2⟩)) (Kd.R_mono F4 (fun k_ h_ => ⟨hT2 3 (by decide) (by decide) k_ h_.1, h_.2⟩)) (Kd.S_mono F5 (hT2 5 (by decide) (by decide))) (Kd.R_nil _ _ _ _ _ : Kd.R (Kd.int .i64) 3 W w4.heap.size (fun k_ => (if T k_ = 11 then 0 else T k_) = 6) (.slice none 0 0) []) (Kd.R_mono F7 (hT2 7 (by decide) (by decide))) (Kd.S_mono F8 (hT2 8 (by decide) (by decide))) (Kd.S_mono F9 (hT2 9 (by decide) (by decide)))
   obtain ⟨X2, d2, e_⟩ := Kd.R_slice hM.h2
   subst e_
   obtain ⟨X3, d3, e_⟩ := Kd.R_slice hM.h3
   subst e_
   obtain ⟨X4, d4, e_⟩ := Kd.R_slice hM.h4
   subst e_
   obtain ⟨X5, d5, e_⟩ := Kd.S_slice hM.h5
   subst e_
   obtain ⟨X7, d7, e_⟩ := Kd.R_slice hM.h7
   subst e_
   obtain ⟨X8, d8, e_⟩ := Kd.S_slice hM.h8
   subst e_
   obtain ⟨X9, d9, e_⟩ := Kd.S_slice hM.h9
   subst e_
   have TG := am (hT0 g (if_pos tg))
   have hgl : w4.heap.size ≤ g := (hT g (by rw [show T g = 11 from tg]; decide)).1
   have T4 := am (hM.zlo (blk_lt B4.out))
   have NMG := am (show gm ≠ g by have h_ := blk_lt BM.out; omega)
   have NTG := am (show gt ≠ g by have h_ := blk_lt BT.out; omega)
   have N4G := am (show g4 ≠ g by have h_ := blk_lt B4.out; omega)
   have GG := am (show w.heap.size ≤ g from Nat.le_trans (bz_ HB.out) hgl)
   have M := am (hM.lower (bz_ HB.out))
   have BG := am hg
   replace BM := am (bk_ BM.out hW)
   replace BT := am (bk_ BT.out hW)
   replace B4 := am (bk_ B4.out hW)
   replace HB := am (bs_ HB.out hW)
   refine norm_ (a' := ?_) ?_ ?_
   rotate_left
   ·simp only [putAll, Act.put, List.setIfInBounds_toArray, List.set_cons_zero, List.set_cons_succ, e1, e3, e6, e9, e11, e13, e14, e15]
    rfl
   clear e1 e3 e6 e9 e11 e13 e14 e15 F2 F3 F4 F5 F7 F8 F9 hF hM hT0 hT2 hg tg hJ hgl hSS
   refine one_ (i := 16) (N := none) (bt_ 17 131071) rfl rfl (by kernel_rfl) (by decide) (fun K hK => ?_)
   obtain ⟨z0, z1, z2, z3, z4, z5, z6, z7, z8, z9, z10, f0, f1, f2, f3, f4, f5, f6, f7, f8, f9, f10⟩ := cz11_ BG.out
   refine skip_ (w1 := ?_) (by rfl) rfl ?_ ?_
   rotate_left
   ·go_simp
    rfl
   clear z0 z1 z2 z3 z4 z5 z6 z7 z8 z9 z10 f0 f1 f2 f3 f4 f5 f6 f7 f8 f9 f10
   have BM9 : (st11_ W g (.int .i64 m1) (.int .i64 m2) (.slice X2 m3.length d2) (.slice X3 n1.length d3) (.slice X4 n2.length d4) (.slice X5 L10.length d5) (.slice none 0 0) (.slice X7 L5.length d7) (.slice X8 Ln.length d8) (.slice X9 Ln.length d9) (.int .i64 0)).heap[gm]? = some (.cells #[.int .i64 a0_0, .int .i64 a0_1, .slice A0_2 l0_2.length c0_2] 28 (0, 0)) := (st11_far NMG.out).trans BM.out
   have BT9 : (st11_ W g (.int .i64 m1) (.int .i64 m2) (.slice X2 m3.length d2) (.slice X3 n1.length d3) (.slice X4 n2.length d4) (.slice X5 L10.length d5) (.slice none 0 0) (.slice X7 L5.length d7) (.slice X8 Ln.length d8) (.slice X9 Ln.length d9) (.int .i64 0)).heap[gt]? = some (.cells #[.slice A1_0 l1_0.length c1_0, .slice A1_1 l1_1.length c1_1] 32 (0, 0)) := (st11_far NTG.out).trans BT.out
   have hS9 : (st11_ W g (.int .i64 m1) (.int .i64 m2) (.slice X2 m3.length d2) (.slice X3 n1.length d3) (.slice X4 n2.length d4) (.slice X5 L10.length d5) (.slice none 0 0) (.slice X7 L5.length d7) (.slice X8 Ln.length d8) (.slice X9 Ln.length d9) (.int .i64 0)).cell? ⟨gm, 0, none⟩ = some (.int .i64 a0_0) ∧ (st11_ W g (.int .i64 m1) (.int .i64 m2) (.slice X2 m3.length d2) (.slice X3 n1.length d3) (.slice X4 n2.length d4) (.slice X5 L10.length d5) (.slice none 0 0) (.slice X7 L5.length d7) (.slice X8 Ln.length d8) (.slice X9 Ln.length d9) (.int .i64 0)).cell? ⟨gm, 1, none⟩ = some (.int .i64 a0_1) ∧ (st11_ W g (.int .i64 m1) (.int .i64 m2) (.slice X2 m3.length d2) (.slice X3 n1.length d3) (.slice X4 n2.length d4) (.slice X5 L10.length d5) (.slice none 0 0) (.slice X7 L5.length d7) (.slice X8 Ln.length d8) (.slice X9 Ln.length d9) (.int .i64 0)).cell? ⟨gm, 2, none⟩ = some (.slice A0_2 l0_2.length c0_2) ∧ (st11_ W g (.int .i64 m1) (.int .i64 m2) (.slice X2 m3.length d2) (.slice X3 n1.length d3) (.slice X4 n2.length d4) (.slice X5 L10.length d5) (.slice none 0 0) (.slice X7 L5.length d7) (.slice X8 Ln.length d8) (.slice X9 Ln.length d9) (.int .i64 0)).cell? ⟨gt, 0, none⟩ = some (.slice A1_0 l1_0.length c1_0) ∧ (st11_ W g (.int .i64 m1) (.int .i64 m2) (.slice X2 m3.length d2) (.slice X3 n1.length d3) (.slice X4 n2.length d4) (.slice X5 L10.length d5) (.slice none 0 0) (.slice X7 L5.length d7) (.slice X8 Ln.length d8) (.slice X9 Ln.length d9) (.int .i64 0)).cell? ⟨gt, 1, none⟩ = some (.slice A1_1 l1_1.length c1_1) := ⟨(blk_cell BM9 0).trans rfl, (blk_cell BM9 1).trans rfl, (blk_cell BM9 2).trans rfl, (blk_cell BT9 0).trans rfl, (blk_cell BT9 1).trans rfl⟩
   change K _ (st11_ W g (.int .i64 m1) (.int .i64 m2) (.slice X2 m3.length d2) (.slice X3 n1.length d3) (.slice X4 n2.length d4) (.slice X5 L10.length d5) (.slice none 0 0) (.slice X7 L5.length d7) (.slice X8 Ln.length d8) (.slice X9 Ln.length d9) (.int .i64 0))
   refine hK.out _ _ hS9 (fun _ => ?_)
   clear hK K BM9 BT9 BM BT hHeld hS9
   refine done_ (by kernel_rfl) ?_
   replace M := am (M.out.move (w1 := st11_ W g (.int .i64 m1) (.int .i64 m2) (.slice X2 m3.length d2) (.slice X3 n1.length d3) (.slice X4 n2.length d4) (.slice X5 L10.length d5) (.slice none 0 0) (.slice X7 L5.length d7) (.slice X8 Ln.length d8) (.slice X9 Ln.length d9) (.int .i64 0)) (fun k_ h_ => st11_far (fun e_ => h_ (e_ ▸ TG.out))) (Nat.le_of_eq st11_size.symm))
   replace B4 := am ((st11_far N4G.out : (st11_ W g (.int .i64 m1) (.int .i64 m2) (.slice X2 m3.length d2) (.slice X3 n1.length d3) (.slice X4 n2.length d4) (.slice X5 L10.length d5) (.slice none 0 0) (.slice X7 L5.length d7) (.slice X8 Ln.length d8) (.slice X9 Ln.length d9) (.int .i64 0)).heap[g4]? = _).trans B4.out)
   replace BG := am (st11_blk BG.out : (st11_ W g (.int .i64 m1) (.int .i64 m2) (.slice X2 m3.length d2) (.slice X3 n1.length d3) (.slice X4 n2.length d4) (.slice X5 L10.length d5) (.slice none 0 0) (.slice X7 L5.length d7) (.slice X8 Ln.length d8) (.slice X9 Ln.length d9) (.int .i64 0)).heap[g]? = _)
   replace HB := am (st11_below HB.out GG.out : Below w.heap.size w (st11_ W g (.int .i64 m1) (.int .i64 m2) (.slice X2 m3.length d2) (.slice X3 n1.length d3) (.slice X4 n2.length d4) (.slice X5 L10.length d5) (.slice none 0 0) (.slice X7 L5.length d7) (.slice X8 Ln.length d8) (.slice X9 Ln.length d9) (.int .i64 0)))
   clear hW hT
   generalize st11_ W g (.int .i64 m1) (.int .i64 m2) (.slice X2 m3.length d2) (.slice X3 n1.length d3) (.slice X4 n2.length d4) (.slice X5 L10.length d5) (.slice none 0 0) (.slice X7 L5.length d7) (.slice X8 Ln.length d8) (.slice X9 Ln.length d9) (.int .i64 0) = w9 at *
   go_wp2
   go_loopg [8] k (fun kq v8 w' => ∃ (TT : Nat → Nat) (i : Int) (q : List Int) (u6 : Value), v8 = .int .i64 i ∧ Aside0 (spec_NetNew.l0 kq n i q = some qo) ∧ Aside0 (kq ≤ k) ∧ Aside0 (Marks TT w.heap.size w' (.slice X2 m3.length d2) (.slice X3 n1.length d3) (.slice X4 n2.length d4) (.slice X5 L10.length d5) (u6) (.slice X7 L5.length d7) (.slice X8 Ln.length d8) (.slice X9 Ln.length d9) m3 n1 n2 L10 q L5 Ln Ln) ∧ Aside0 (TT g4 = 0) ∧ Aside0 (TT g = 0) ∧ Aside0 (w'.heap[g4]? = some (.cells #[.int .i64 0, .int .i64 0, .slice none 0 0, .slice none 0 0, .slice none 0 0, .slice none 0 0, .slice none 0 0, .slice none 0 0, .slice none 0 0, .slice none 0 0, .int .i64 0] 35 (0, 0))) ∧ Aside0 (w'.heap[g]? = some (.cells #[.int .i64 m1, .int .i64 m2, .slice X2 m3.length d2, .slice X3 n1.length d3, .slice X4 n2.length d4, .slice X5 L10.length d5, u6, .slice X7 L5.length d7, .slice X8 Ln.length d8, .slice X9 Ln.length d9, .int .i64 0] 35 (0, 0))) ∧ Aside0 (Below w.heap.size w w'))
   case atStart => exact ⟨_, 0, [], _, rfl, E5, ⟨Nat.le_refl _⟩, ⟨M.out.belowV (Below.refl _ _)⟩, T4, TG, ⟨bq_ B4.out⟩, ⟨bq_ BG.out⟩, ⟨bb_ HB.out⟩⟩
   case round =>
    clear E5 M T4 TG B4 BG HB
    obtain ⟨TT, i, q, u6, rfl, HA, HK1, M, T4, TG, B4, BG, HB⟩ := hrel
    obtain ⟨X6, d6, e_⟩ := Kd.R_slice M.out.h6
    subst e_
    obtain ⟨y0, y1, y2, y3, y4, y5, y6, y7, y8, y9, y10, g0, g1, g2, g3, g4_, g5, g6, g7, g8, g9, g10⟩ := cz11_ BG.out
    cases gk with
    | zero => exact absurd HA.out (by simp [spec_NetNew.l0])
    | succ k1 =>
     have H := HA.out
     clear HA
     simp only [spec_NetNew.l0] at H
     by_cases c1 : i < wrap64 (10 * n)
     ·rw [if_pos c1] at H
      by_cases c2 : q.length < 17592186044416
      ·rw [if_pos c2] at H
       obtain ⟨q2, hq2⟩ : ∃ y_, q ++ [-1] = y_ := ⟨_, rfl⟩
       rw [hq2] at H
       have Q2 := am hq2
       have H' := am H
       have C2 := am c2
       have c1d : decide (i < wrap64 (10 * n)) = true := decide_eq_true c1
       clear H hq2 c2
       go_wp2_with (first | ((with_reducible refine gate_builtin (b := .append) (xs := #[.tmp 39, .tmp 40]) rfl ?_); at_builtin; refine Kd.R_append (Kd.int .i64) (w0 := w) w.heap.size rfl (.tmp 39) (.tmp 40) 26 3 (.int .i64 0) 8 rfl Try.underlying26 nnInfoI_ rfl (by decide) (by omega) (.slice X6 q.length d6) q (-1) [.int .i64 (-1)] (fun k_ => TT k_ = 6 ∨ TT k_ = 0) (fun _ => False) rfl rfl ?aP (fun _ hk => hk.elim) ?aF ?aO ?aB ?aS ?aL ?_; (case aP => exact rfl); (case aB => exact (hb_ HB.out)); (case aF => exact (fun k_ hk => Or.inr (M.out.zhi hk))); (case aO => exact ra_ (Kd.R_mono M.out.h6 (fun k_ h_ => Or.inl h_))); (case aS => exact (bz_ HB.out)); (case aL => have := C2.out; omega); intro u7 w7 ho hb hg hat; rw [Q2.out] at ho; obtain ⟨hK7, T7, hT7, hM7⟩ := M.out.app6 (bz_ HB.out) ho hg hat; have M7 := am hM7; have B47 := am (blk_kept B4.out hK7 (fun h_ => by have h2_ := T4.out; rw [h_] at h2_; cases h2_)); have BG7 := am (blk_kept BG.out hK7 (fun h_ => by have h2_ := TG.out; rw [h_] at h2_; cases h2_)); have T47 := am ((hT7 g4 (blk_lt B4.out)).trans T4.out); have TG7 := am ((hT7 g (blk_lt BG.out)).trans TG.out); have HB7 := am hb; obtain ⟨X66, d66, e_⟩ := Kd.R_slice hM7.h6; subst e_; clear ho hb hg hat hK7 hT7 hM7 M B4 BG T4 TG HB y0 y1 y2 y3 y4 y5 y6 y7 y8 y9 y10 g0 g1 g2 g3 g4_ g5 g6 g7 g8 g9 g10; obtain ⟨y0, y1, y2, y3, y4, y5, y6, y7, y8, y9, y10, g0, g1, g2, g3, g4_, g5, g6, g7, g8, g9, g10⟩ := cz11_ BG7.out))
       go_roundg k1
       case measure => have := HK1.out; omega
       case rel => exact ⟨T7, _, q2, _, rfl, H', ⟨by have := HK1.out; omega⟩, ⟨M7.out.move (fun k_ h_ => Below.heap_setCell _ _ _ _ (fun e_ => h_ (e_ ▸ TG7.out))) (by simp only [World.setCell, Array.size_modify]; exact Nat.le_refl _)⟩, T47, TG7, ⟨blk_far B47.out N4G.out _⟩, ⟨blk_put (cs := #[.int .i64 m1, .int .i64 m2, .slice X2 m3.length d2, .slice X3 n1.length d3, .slice X4 n2.length d4, .slice X5 L10.length d5, .slice X6 q.length d6, .slice X7 L5.length d7, .slice X8 Ln.length d8, .slice X9 Ln.length d9, .int .i64 0]) BG7.out 6 _ rfl⟩, ⟨below_set HB7.out GG.out⟩⟩
      ·rw [if_neg c2] at H
       cases H
     ·rw [if_neg c1] at H
      obtain rfl := Option.some.inj H
      have c1d : decide (i < wrap64 (10 * n)) = false := decide_eq_false c1
      clear H
      obtain ⟨z0, z1, z2, z3, z4, z5, z6, z7, z8, z9, z10, f0, f1, f2, f3, f4, f5, f6, f7, f8, f9, f10⟩ := cz11_ B4.out
      go_wp2
      clear y0 y1 y2 y3 y4 y5 y6 y7 y8 y9 y10 g0 g1 g2 g3 g4_ g5 g6 g7 g8 g9 g10 z0 z1 z2 z3 z4 z5 z6 z7 z8 z9 z10 f0 f1 f2 f3 f4 f5 f6 f7 f8 f9 f10 BG
      change bodyPost _ _ _ _ _ (st11_ _ g4 (.int .i64 m1) (.int .i64 m2) (.slice X2 m3.length d2) (.slice X3 n1.length d3) (.slice X4 n2.length d4) (.slice X5 L10.length d5) (.slice X6 q.length d6) (.slice X7 L5.length d7) (.slice X8 Ln.length d8) (.slice X9 Ln.length d9) (.int .i64 0))
      replace M := am (M.out.move (w1 := st11_ _ g4 (.int .i64 m1) (.int .i64 m2) (.slice X2 m3.length d2) (.slice X3 n1.length d3) (.slice X4 n2.length d4) (.slice X5 L10.length d5) (.slice X6 q.length d6) (.slice X7 L5.length d7) (.slice X8 Ln.length d8) (.slice X9 Ln.length d9) (.int .i64 0)) (fun k_ h_ => st11_far (fun e_ => h_ (e_ ▸ T4.out))) (Nat.le_of_eq st11_size.symm))
      replace B4 := am (st11_blk B4.out : (st11_ _ g4 (.int .i64 m1) (.int .i64 m2) (.slice X2 m3.length d2) (.slice X3 n1.length d3) (.slice X4 n2.length d4) (.slice X5 L10.length d5) (.slice X6 q.length d6) (.slice X7 L5.length d7) (.slice X8 Ln.length d8) (.slice X9 Ln.length d9) (.int .i64 0)).heap[g4]? = _)
      replace HB := am (st11_below HB.out G4.out : Below w.heap.size w (st11_ _ g4 (.int .i64 m1) (.int .i64 m2) (.slice X2 m3.length d2) (.slice X3 n1.length d3) (.slice X4 n2.length d4) (.slice X5 L10.length d5) (.slice X6 q.length d6) (.slice X7 L5.length d7) (.slice X8 Ln.length d8) (.slice X9 Ln.length d9) (.int .i64 0)))
      generalize st11_ _ g4 (.int .i64 m1) (.int .i64 m2) (.slice X2 m3.length d2) (.slice X3 n1.length d3) (.slice X4 n2.length d4) (.slice X5 L10.length d5) (.slice X6 q.length d6) (.slice X7 L5.length d7) (.slice X8 Ln.length d8) (.slice X9 Ln.length d9) (.int .i64 0) = w9 at *
      refine bodyPost_ret (results_ct rfl _ _ g4 35 _ (0, 0) _ rfl (bq_ B4.out) Try.underlying35 rfl (by kernel_rfl)) rfl ?_
      exact ⟨TT, _, _, _, _, _, _, _, _, rfl, M.out.belowV (Below.refl _ _), bb_ HB.out⟩
end Go.Proofs.Yteiemoooelpdaaa.PFnCreditSum
-- thin
