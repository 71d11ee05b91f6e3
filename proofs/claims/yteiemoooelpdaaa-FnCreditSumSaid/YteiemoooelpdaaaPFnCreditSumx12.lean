
import Derived.Test.YteiemoooelpdaaaPFnCreditSumx0
import Derived.Test.YteiemoooelpdaaaPFnCreditSumx1
import Derived.Test.YteiemoooelpdaaaPFnCreditSumx9
import Derived.Test.YteiemoooelpdaaaPFnCreditSumx10
import Derived.Test.YteiemoooelpdaaaPFnCreditSumx11
namespace Go.Proofs.Yteiemoooelpdaaa.PFnCreditSum
open Go.RowKit Go.Proofs.YteiemoooelpdaaaW.PrintWords Go.Proofs.YteiemoooelpdaaaW.PrintLast Go.Proofs.YteiemoooelpdaaaW.PrintMore
attribute [local go_sem] max2_int min2_int max_two min_two max_three min_three max_four min_four
set_option linter.unusedVariables false
set_option maxHeartbeats 8000000
set_option maxRecDepth 100000
set_option linter.unusedSimpArgs false
section
variable {T : Nat → Nat} {B : Nat} {w w1 w8 : World} {v2 v3 v4 v5 v6 v7 v8 v9 : Value} {l2 l3 l4 : List Int} {l5 : List (List S72)} {l6 l7 : List Int} {l8 l9 r : List (List S72)} {i : Int} {g c : Nat} {oki : Nat → Prop} {u0 u : Value} {row : Option Nat} {x' : List S72}
theorem Marks.grow_5 (h : Marks T B w v2 v3 v4 v5 v6 v7 v8 v9 l2 l3 l4 l5 l6 l7 l8 l9) (hb : B ≤ w.heap.size) (hS_ : Kd.S (Kd.slice 72 k72) 42 w1 B (fun k => T k = 5 ∨ w.heap.size ≤ k) v5 r) (hK : Kept w w1 (fun k => T k = 5)) : ∃ T', (∀ k, k < w.heap.size → T' k = T k) ∧ Marks T' B w1 v2 v3 v4 v5 v6 v7 v8 v9 l2 l3 l4 r l6 l7 l8 l9 := by
 have hm : ∀ n, n ≠ 0 → n ≠ 5 → (∀ k, T k = n → w1.heap[k]? = w.heap[k]?) ∧ ∀ k, T k = n → (if w.heap.size ≤ k ∧ k < w1.heap.size then 5 else T k) = n := fun n h0 h8 =>
  ⟨fun k e => hK.2 k (h.hi k (by omega)) (fun e2 => h8 (e.symm.trans e2)), fun k e => by have := h.hi k (by omega); rw [if_neg (by omega)]; exact e⟩
 have hR {d : Kd Int} {e : Nat} {v : Value} {xs : List Int} (n : Nat) (h0 : n ≠ 0) (hn : n ≠ 5) (h2 : Kd.R d e w B (fun k => T k = n) v xs) : Kd.R d e w1 B (fun k => (if w.heap.size ≤ k ∧ k < w1.heap.size then 5 else T k) = n) v xs := Kd.R_mono (Kd.R_move h2 (hm n h0 hn).1) (hm n h0 hn).2
 have hS {d : Kd (List S72)} {e : Nat} {v : Value} {xs : List (List S72)} (n : Nat) (h0 : n ≠ 0) (hn : n ≠ 5) (h2 : Kd.S d e w B (fun k => T k = n) v xs) : Kd.S d e w1 B (fun k => (if w.heap.size ≤ k ∧ k < w1.heap.size then 5 else T k) = n) v xs := Kd.S_mono (Kd.S_move h2 (hm n h0 hn).1) (hm n h0 hn).2
 refine ⟨fun k => if w.heap.size ≤ k ∧ k < w1.heap.size then 5 else T k, fun k hk => if_neg (by omega), fun k hk => ?_, fun k hk => ?_, hR 2 (by decide) (by decide) h.h2, hR 3 (by decide) (by decide) h.h3, hR 4 (by decide) (by decide) h.h4, Kd.S_mono (Kd.S_bound hS_) (fun k q => ?_), hR 6 (by decide) (by decide) h.h6, hR 7 (by decide) (by decide) h.h7, hS 8 (by decide) (by decide) h.h8, hS 9 (by decide) (by decide) h.h9⟩
 ·split at hk
  ·omega
  ·exact h.lo k hk
 ·split at hk
  ·omega
  ·exact Nat.lt_of_lt_of_le (h.hi k hk) hK.1
 ·by_cases hz : w.heap.size ≤ k ∧ k < w1.heap.size
  ·exact if_pos hz
  ·have := q.2.2.1
   rw [if_neg hz]; exact q.1.resolve_right (by omega)
theorem Marks.get_5 (h : Marks T B w v2 v3 v4 v5 v6 v7 v8 v9 l2 l3 l4 l5 l6 l7 l8 l9) (h0 : 0 ≤ i) (h1 : i < (l5.length : Int)) : ∃ (g c : Nat) (oki : Nat → Prop) (A : Option Addr) (n : Nat), v5 = (.slice (some ⟨g, 0, none⟩) l5.length c) ∧ T g = 5 ∧ g < w.heap.size ∧ w.cell? ⟨g, i.toNat, none⟩ = some (.slice A (l5.getD i.toNat []).length n) ∧ w.frozen? ⟨g, i.toNat, none⟩ = false ∧ Kd.R k72 72 w B oki (.slice A (l5.getD i.toNat []).length n) (l5.getD i.toNat []) ∧ (∀ k, oki k → (T k = 5 ∨ w.heap.size ≤ k) ∧ k ≠ g) ∧ Kd.H (Kd.slice 72 k72) 42 w B (fun k => T k = 5 ∨ w.heap.size ≤ k) (.slice (some ⟨g, 0, none⟩) l5.length c) l5 i oki [.slice A (l5.getD i.toNat []).length n] := by
 obtain ⟨g, c, e, _, hl, cl, _⟩ := Kd.S_form h.h5 (by omega)
 subst e
 have hT : T g = 5 := (Kd.S_R h.h5).1 g rfl
 obtain ⟨oki, ce, _, hM, hcc, hfr, hoki, hH⟩ := Kd.S_elem (Kd.S_mono h.h5 (fun k e_ => Or.inl e_ : ∀ k, T k = 5 → T k = 5 ∨ w.heap.size ≤ k)) [] i h0 h1
 obtain ⟨ve, rfl, hR⟩ := hM
 obtain ⟨A, n, e⟩ := Kd.R_slice hR
 subst e
 have hx := hcc 0 _ rfl
 have hf := hfr 0
 simp only [show (Kd.slice 72 k72).sz = 1 from rfl, Nat.mul_one, Nat.add_zero] at hx hf
 exact ⟨g, c, oki, A, n, rfl, hT, hl, hx, hf, hR, hoki, hH⟩
theorem Marks.put_5 (h : Marks T B w v2 v3 v4 v5 v6 v7 v8 v9 l2 l3 l4 l5 l6 l7 l8 l9) (hB : B ≤ w.heap.size) (h0 : 0 ≤ i) (h1 : i < (l5.length : Int)) (hv : v5 = (.slice (some ⟨g, 0, none⟩) l5.length c)) (hT : T g = 5) (HI : ∀ k, oki k → (T k = 5 ∨ w.heap.size ≤ k) ∧ k ≠ g) (HH : Kd.H (Kd.slice 72 k72) 42 w B (fun k => T k = 5 ∨ w.heap.size ≤ k) (.slice (some ⟨g, 0, none⟩) l5.length c) l5 i oki [u0]) (hg : w.grownBy w8 row) (hrow : ∀ k, row = some k → oki k) (hu : u.oneCell' = true) (HO : Kd.R k72 72 w8 B (fun k => oki k ∨ w.heap.size ≤ k) u x') : (∃ T', (∀ k, k < w.heap.size → T' k = T k) ∧ Marks T' B (w8.setCell ⟨g, i.toNat, none⟩ u) v2 v3 v4 v5 v6 v7 v8 v9 l2 l3 l4 (l5.set i.toNat x') l6 l7 l8 l9) ∧ Kept w (w8.setCell ⟨g, i.toNat, none⟩ u) (fun k => T k = 5) := by
 subst hv
 have HH8 := Kd.H_grown (Kd.H_widen HH) hg (fun k e => Or.inl (hrow k e))
 obtain ⟨hH9, hg9⟩ := Kd.H_seg (seg := [u]) (j := 0) HH8 h0 h1 (Nat.le_refl _) (by intro q hq; rw [List.mem_singleton] at hq; subst hq; exact hu)
 rw [show w8.setCells g (i.toNat * (Kd.slice 72 k72).sz + 0) [u] = w8.setCell ⟨g, i.toNat, none⟩ u from (by rw [show i.toNat * (Kd.slice 72 k72).sz + 0 = i.toNat from by rw [show (Kd.slice 72 k72).sz = 1 from rfl]; omega]; rfl)] at hH9 hg9
 have hl := h.hi g (by omega)
 have hS9 := Kd.H_back hH9 (x' := x') (okp := fun k => oki k ∨ w.heap.size ≤ k) ⟨u, rfl, Kd.R_move HO (fun k h_ => Below.heap_setCell _ _ _ _ (h_.elim (fun h2_ => (HI k h2_).2) (fun h2_ e_ => by have h4_ : k = g := e_; omega)))⟩ (fun k h_ => h_.elim Or.inl (fun h2_ => Or.inr ⟨Or.inr h2_, h2_⟩))
 have hK9 : Kept w (w8.setCell ⟨g, i.toNat, none⟩ u) (fun k => T k = 5) := Kept.setCell (Kept.of_grown hg (Kept.refl w _) (fun k e => (HI k (hrow k e)).1)) (Or.inl hT) _
 exact ⟨h.grow_5 hB hS9 hK9, hK9⟩
theorem Marks.grow_8 (h : Marks T B w v2 v3 v4 v5 v6 v7 v8 v9 l2 l3 l4 l5 l6 l7 l8 l9) (hb : B ≤ w.heap.size) (hS_ : Kd.S (Kd.slice 72 k72) 42 w1 B (fun k => T k = 8 ∨ w.heap.size ≤ k) v8 r) (hK : Kept w w1 (fun k => T k = 8)) : ∃ T', (∀ k, k < w.heap.size → T' k = T k) ∧ Marks T' B w1 v2 v3 v4 v5 v6 v7 v8 v9 l2 l3 l4 l5 l6 l7 r l9 := by
 have hm : ∀ n, n ≠ 0 → n ≠ 8 → (∀ k, T k = n → w1.heap[k]? = w.heap[k]?) ∧ ∀ k, T k = n → (if w.heap.size ≤ k ∧ k < w1.heap.size then 8 else T k) = n := fun n h0 h8 =>
  ⟨fun k e => hK.2 k (h.hi k (by omega)) (fun e2 => h8 (e.symm.trans e2)), fun k e => by have := h.hi k (by omega); rw [if_neg (by omega)]; exact e⟩
 have hR {d : Kd Int} {e : Nat} {v : Value} {xs : List Int} (n : Nat) (h0 : n ≠ 0) (hn : n ≠ 8) (h2 : Kd.R d e w B (fun k => T k = n) v xs) : Kd.R d e w1 B (fun k => (if w.heap.size ≤ k ∧ k < w1.heap.size then 8 else T k) = n) v xs := Kd.R_mono (Kd.R_move h2 (hm n h0 hn).1) (hm n h0 hn).2
 have hS {d : Kd (List S72)} {e : Nat} {v : Value} {xs : List (List S72)} (n : Nat) (h0 : n ≠ 0) (hn : n ≠ 8) (h2 : Kd.S d e w B (fun k => T k = n) v xs) : Kd.S d e w1 B (fun k => (if w.heap.size ≤ k ∧ k < w1.heap.size then 8 else T k) = n) v xs := Kd.S_mono (Kd.S_move h2 (hm n h0 hn).1) (hm n h0 hn).2
 refine ⟨fun k => if w.heap.size ≤ k ∧ k < w1.heap.size then 8 else T k, fun k hk => if_neg (by omega), fun k hk => ?_, fun k hk => ?_, hR 2 (by decide) (by decide) h.h2, hR 3 (by decide) (by decide) h.h3, hR 4 (by decide) (by decide) h.h4, hS 5 (by decide) (by decide) h.h5, hR 6 (by decide) (by decide) h.h6, hR 7 (by decide) (by decide) h.h7, Kd.S_mono (Kd.S_bound hS_) (fun k q => ?_), hS 9 (by decide) (by decide) h.h9⟩
 ·split at hk
  ·omega
  ·exact h.lo k hk
 ·split at hk
  ·omega
  ·exact Nat.lt_of_lt_of_le (h.hi k hk) hK.1
 ·by_cases hz : w.heap.size ≤ k ∧ k < w1.heap.size
  ·exact if_pos hz
  ·have := q.2.2.1
   rw [if_neg hz]; exact q.1.resolve_right (by omega)
theorem Marks.get_8 (h : Marks T B w v2 v3 v4 v5 v6 v7 v8 v9 l2 l3 l4 l5 l6 l7 l8 l9) (h0 : 0 ≤ i) (h1 : i < (l8.length : Int)) : ∃ (g c : Nat) (oki : Nat → Prop) (A : Option Addr) (n : Nat), v8 = (.slice (some ⟨g, 0, none⟩) l8.length c) ∧ T g = 8 ∧ g < w.heap.size ∧ w.cell? ⟨g, i.toNat, none⟩ = some (.slice A (l8.getD i.toNat []).length n) ∧ w.frozen? ⟨g, i.toNat, none⟩ = false ∧ Kd.R k72 72 w B oki (.slice A (l8.getD i.toNat []).length n) (l8.getD i.toNat []) ∧ (∀ k, oki k → (T k = 8 ∨ w.heap.size ≤ k) ∧ k ≠ g) ∧ Kd.H (Kd.slice 72 k72) 42 w B (fun k => T k = 8 ∨ w.heap.size ≤ k) (.slice (some ⟨g, 0, none⟩) l8.length c) l8 i oki [.slice A (l8.getD i.toNat []).length n] := by
 obtain ⟨g, c, e, _, hl, cl, _⟩ := Kd.S_form h.h8 (by omega)
 subst e
 have hT : T g = 8 := (Kd.S_R h.h8).1 g rfl
 obtain ⟨oki, ce, _, hM, hcc, hfr, hoki, hH⟩ := Kd.S_elem (Kd.S_mono h.h8 (fun k e_ => Or.inl e_ : ∀ k, T k = 8 → T k = 8 ∨ w.heap.size ≤ k)) [] i h0 h1
 obtain ⟨ve, rfl, hR⟩ := hM
 obtain ⟨A, n, e⟩ := Kd.R_slice hR
 subst e
 have hx := hcc 0 _ rfl
 have hf := hfr 0
 simp only [show (Kd.slice 72 k72).sz = 1 from rfl, Nat.mul_one, Nat.add_zero] at hx hf
 exact ⟨g, c, oki, A, n, rfl, hT, hl, hx, hf, hR, hoki, hH⟩
theorem Marks.put_8 (h : Marks T B w v2 v3 v4 v5 v6 v7 v8 v9 l2 l3 l4 l5 l6 l7 l8 l9) (hB : B ≤ w.heap.size) (h0 : 0 ≤ i) (h1 : i < (l8.length : Int)) (hv : v8 = (.slice (some ⟨g, 0, none⟩) l8.length c)) (hT : T g = 8) (HI : ∀ k, oki k → (T k = 8 ∨ w.heap.size ≤ k) ∧ k ≠ g) (HH : Kd.H (Kd.slice 72 k72) 42 w B (fun k => T k = 8 ∨ w.heap.size ≤ k) (.slice (some ⟨g, 0, none⟩) l8.length c) l8 i oki [u0]) (hg : w.grownBy w8 row) (hrow : ∀ k, row = some k → oki k) (hu : u.oneCell' = true) (HO : Kd.R k72 72 w8 B (fun k => oki k ∨ w.heap.size ≤ k) u x') : (∃ T', (∀ k, k < w.heap.size → T' k = T k) ∧ Marks T' B (w8.setCell ⟨g, i.toNat, none⟩ u) v2 v3 v4 v5 v6 v7 v8 v9 l2 l3 l4 l5 l6 l7 (l8.set i.toNat x') l9) ∧ Kept w (w8.setCell ⟨g, i.toNat, none⟩ u) (fun k => T k = 8) := by
 subst hv
 have HH8 := Kd.H_grown (Kd.H_widen HH) hg (fun k e => Or.inl (hrow k e))
 obtain ⟨hH9, hg9⟩ := Kd.H_seg (seg := [u]) (j := 0) HH8 h0 h1 (Nat.le_refl _) (by intro q hq; rw [List.mem_singleton] at hq; subst hq; exact hu)
 rw [show w8.setCells g (i.toNat * (Kd.slice 72 k72).sz + 0) [u] = w8.setCell ⟨g, i.toNat, none⟩ u from (by rw [show i.toNat * (Kd.slice 72 k72).sz + 0 = i.toNat from by rw [show (Kd.slice 72 k72).sz = 1 from rfl]; omega]; rfl)] at hH9 hg9
 have hl := h.hi g (by omega)
 have hS9 := Kd.H_back hH9 (x' := x') (okp := fun k => oki k ∨ w.heap.size ≤ k) ⟨u, rfl, Kd.R_move HO (fun k h_ => Below.heap_setCell _ _ _ _ (h_.elim (fun h2_ => (HI k h2_).2) (fun h2_ e_ => by have h4_ : k = g := e_; omega)))⟩ (fun k h_ => h_.elim Or.inl (fun h2_ => Or.inr ⟨Or.inr h2_, h2_⟩))
 have hK9 : Kept w (w8.setCell ⟨g, i.toNat, none⟩ u) (fun k => T k = 8) := Kept.setCell (Kept.of_grown hg (Kept.refl w _) (fun k e => (HI k (hrow k e)).1)) (Or.inl hT) _
 exact ⟨h.grow_8 hB hS9 hK9, hK9⟩
theorem Marks.grow_9 (h : Marks T B w v2 v3 v4 v5 v6 v7 v8 v9 l2 l3 l4 l5 l6 l7 l8 l9) (hb : B ≤ w.heap.size) (hS_ : Kd.S (Kd.slice 72 k72) 42 w1 B (fun k => T k = 9 ∨ w.heap.size ≤ k) v9 r) (hK : Kept w w1 (fun k => T k = 9)) : ∃ T', (∀ k, k < w.heap.size → T' k = T k) ∧ Marks T' B w1 v2 v3 v4 v5 v6 v7 v8 v9 l2 l3 l4 l5 l6 l7 l8 r := by
 have hm : ∀ n, n ≠ 0 → n ≠ 9 → (∀ k, T k = n → w1.heap[k]? = w.heap[k]?) ∧ ∀ k, T k = n → (if w.heap.size ≤ k ∧ k < w1.heap.size then 9 else T k) = n := fun n h0 h8 =>
  ⟨fun k e => hK.2 k (h.hi k (by omega)) (fun e2 => h8 (e.symm.trans e2)), fun k e => by have := h.hi k (by omega); rw [if_neg (by omega)]; exact e⟩
 have hR {d : Kd Int} {e : Nat} {v : Value} {xs : List Int} (n : Nat) (h0 : n ≠ 0) (hn : n ≠ 9) (h2 : Kd.R d e w B (fun k => T k = n) v xs) : Kd.R d e w1 B (fun k => (if w.heap.size ≤ k ∧ k < w1.heap.size then 9 else T k) = n) v xs := Kd.R_mono (Kd.R_move h2 (hm n h0 hn).1) (hm n h0 hn).2
 have hS {d : Kd (List S72)} {e : Nat} {v : Value} {xs : List (List S72)} (n : Nat) (h0 : n ≠ 0) (hn : n ≠ 9) (h2 : Kd.S d e w B (fun k => T k = n) v xs) : Kd.S d e w1 B (fun k => (if w.heap.size ≤ k ∧ k < w1.heap.size then 9 else T k) = n) v xs := Kd.S_mono (Kd.S_move h2 (hm n h0 hn).1) (hm n h0 hn).2
 refine ⟨fun k => if w.heap.size ≤ k ∧ k < w1.heap.size then 9 else T k, fun k hk => if_neg (by omega), fun k hk => ?_, fun k hk => ?_, hR 2 (by decide) (by decide) h.h2, hR 3 (by decide) (by decide) h.h3, hR 4 (by decide) (by decide) h.h4, hS 5 (by decide) (by decide) h.h5, hR 6 (by decide) (by decide) h.h6, hR 7 (by decide) (by decide) h.h7, hS 8 (by decide) (by decide) h.h8, Kd.S_mono (Kd.S_bound hS_) (fun k q => ?_)⟩
 ·split at hk
  ·omega
  ·exact h.lo k hk
 ·split at hk
  ·omega
  ·exact Nat.lt_of_lt_of_le (h.hi k hk) hK.1
 ·by_cases hz : w.heap.size ≤ k ∧ k < w1.heap.size
  ·exact if_pos hz
  ·have := q.2.2.1
   rw [if_neg hz]; exact q.1.resolve_right (by omega)
theorem Marks.get_9 (h : Marks T B w v2 v3 v4 v5 v6 v7 v8 v9 l2 l3 l4 l5 l6 l7 l8 l9) (h0 : 0 ≤ i) (h1 : i < (l9.length : Int)) : ∃ (g c : Nat) (oki : Nat → Prop) (A : Option Addr) (n : Nat), v9 = (.slice (some ⟨g, 0, none⟩) l9.length c) ∧ T g = 9 ∧ g < w.heap.size ∧ w.cell? ⟨g, i.toNat, none⟩ = some (.slice A (l9.getD i.toNat []).length n) ∧ w.frozen? ⟨g, i.toNat, none⟩ = false ∧ Kd.R k72 72 w B oki (.slice A (l9.getD i.toNat []).length n) (l9.getD i.toNat []) ∧ (∀ k, oki k → (T k = 9 ∨ w.heap.size ≤ k) ∧ k ≠ g) ∧ Kd.H (Kd.slice 72 k72) 42 w B (fun k => T k = 9 ∨ w.heap.size ≤ k) (.slice (some ⟨g, 0, none⟩) l9.length c) l9 i oki [.slice A (l9.getD i.toNat []).length n] := by
 obtain ⟨g, c, e, _, hl, cl, _⟩ := Kd.S_form h.h9 (by omega)
 subst e
 have hT : T g = 9 := (Kd.S_R h.h9).1 g rfl
 obtain ⟨oki, ce, _, hM, hcc, hfr, hoki, hH⟩ := Kd.S_elem (Kd.S_mono h.h9 (fun k e_ => Or.inl e_ : ∀ k, T k = 9 → T k = 9 ∨ w.heap.size ≤ k)) [] i h0 h1
 obtain ⟨ve, rfl, hR⟩ := hM
 obtain ⟨A, n, e⟩ := Kd.R_slice hR
 subst e
 have hx := hcc 0 _ rfl
 have hf := hfr 0
 simp only [show (Kd.slice 72 k72).sz = 1 from rfl, Nat.mul_one, Nat.add_zero] at hx hf
 exact ⟨g, c, oki, A, n, rfl, hT, hl, hx, hf, hR, hoki, hH⟩
theorem Marks.put_9 (h : Marks T B w v2 v3 v4 v5 v6 v7 v8 v9 l2 l3 l4 l5 l6 l7 l8 l9) (hB : B ≤ w.heap.size) (h0 : 0 ≤ i) (h1 : i < (l9.length : Int)) (hv : v9 = (.slice (some ⟨g, 0, none⟩) l9.length c)) (hT : T g = 9) (HI : ∀ k, oki k → (T k = 9 ∨ w.heap.size ≤ k) ∧ k ≠ g) (HH : Kd.H (Kd.slice 72 k72) 42 w B (fun k => T k = 9 ∨ w.heap.size ≤ k) (.slice (some ⟨g, 0, none⟩) l9.length c) l9 i oki [u0]) (hg : w.grownBy w8 row) (hrow : ∀ k, row = some k → oki k) (hu : u.oneCell' = true) (HO : Kd.R k72 72 w8 B (fun k => oki k ∨ w.heap.size ≤ k) u x') : (∃ T', (∀ k, k < w.heap.size → T' k = T k) ∧ Marks T' B (w8.setCell ⟨g, i.toNat, none⟩ u) v2 v3 v4 v5 v6 v7 v8 v9 l2 l3 l4 l5 l6 l7 l8 (l9.set i.toNat x')) ∧ Kept w (w8.setCell ⟨g, i.toNat, none⟩ u) (fun k => T k = 9) := by
 subst hv
 have HH8 := Kd.H_grown (Kd.H_widen HH) hg (fun k e => Or.inl (hrow k e))
 obtain ⟨hH9, hg9⟩ := Kd.H_seg (seg := [u]) (j := 0) HH8 h0 h1 (Nat.le_refl _) (by intro q hq; rw [List.mem_singleton] at hq; subst hq; exact hu)
 rw [show w8.setCells g (i.toNat * (Kd.slice 72 k72).sz + 0) [u] = w8.setCell ⟨g, i.toNat, none⟩ u from (by rw [show i.toNat * (Kd.slice 72 k72).sz + 0 = i.toNat from by rw [show (Kd.slice 72 k72).sz = 1 from rfl]; omega]; rfl)] at hH9 hg9
 have hl := h.hi g (by omega)
 have hS9 := Kd.H_back hH9 (x' := x') (okp := fun k => oki k ∨ w.heap.size ≤ k) ⟨u, rfl, Kd.R_move HO (fun k h_ => Below.heap_setCell _ _ _ _ (h_.elim (fun h2_ => (HI k h2_).2) (fun h2_ e_ => by have h4_ : k = g := e_; omega)))⟩ (fun k h_ => h_.elim Or.inl (fun h2_ => Or.inr ⟨Or.inr h2_, h2_⟩))
 have hK9 : Kept w (w8.setCell ⟨g, i.toNat, none⟩ u) (fun k => T k = 9) := Kept.setCell (Kept.of_grown hg (Kept.refl w _) (fun k e => (HI k (hrow k e)).1)) (Or.inl hT) _
 exact ⟨h.grow_9 hB hS9 hK9, hK9⟩
end
theorem lent_cell {w w8 : World} {B g n c : Nat} {ok oki : Nat → Prop} {xs : List (List S72)} {i : Int} {u0 : Value} {row : Option Nat} (HH : Kd.H (Kd.slice 72 k72) 42 w B ok (.slice (some ⟨g, 0, none⟩) n c) xs i oki [u0]) (h0 : 0 ≤ i) (h1 : i < (n : Int)) (hg : w.grownBy w8 row) (hrow : ∀ k, row = some k → oki k) : w8.cell? ⟨g, i.toNat, none⟩ = some u0 ∧ w8.frozen? ⟨g, i.toNat, none⟩ = false := by
 obtain ⟨hc, hf⟩ := Kd.H_at (Kd.H_grown (Kd.H_widen HH) hg (fun k e => Or.inl (hrow k e))) h0 h1
 have hx := hc 0 _ rfl
 have hfx := hf 0
 simp only [show (Kd.slice 72 k72).sz = 1 from rfl, Nat.mul_one, Nat.add_zero] at hx hfx
 exact ⟨hx, hfx⟩
theorem gt_ {a w w' : World} {row : Option Nat} (h : Below a.heap.size a w) (k : w.grownBy w' row) : a.grownBy w' row :=
 have h := grown_of_below h row
 ⟨k.os.trans h.os, k.tape.trans h.tape, k.output.trans h.output, Nat.le_trans h.size k.size, fun i hi hn => (k.block i (Nat.lt_of_lt_of_le hi h.size) hn).trans (h.block i hi hn)⟩
theorem Marks.free {T : Nat → Nat} {B : Nat} {w w8 : World} {gx N : Nat} {oki : Nat → Prop} {row : Option Nat} {o : Obj} (hb : w.heap[gx]? = some o) (hT : T gx = 0) (HI : ∀ k, oki k → (T k = N ∨ w.heap.size ≤ k) ∧ k ≠ gx ∨ T k = N ∨ w.heap.size ≤ k) (hN : N ≠ 0) (hg : w.grownBy w8 row) (hrow : ∀ k, row = some k → oki k) : w8.heap[gx]? = some o :=
 blk_grown hb hg (fun e => by
  have h1 := blk_lt hb
  rcases HI gx (hrow gx e.symm) with ⟨h2 | h2, _⟩ | h2 | h2 <;> omega)
def spec_l16Send.f (k : Nat) (a0_0 : Int) (a0_1 : Int) (l0_2 : List Int) (l0_3 : List Int) (l0_4 : List Int) (l0_5 : List (List S72)) (l0_6 : List Int) (l0_7 : List Int) (l0_8 : List (List S72)) (l0_9 : List (List S72)) (a0_10 : Int) (p0 p1 p2 p3 p4 : Int) : Option (Int × Int × List Int × List Int × List Int × (List (List S72)) × List Int × List Int × (List (List S72)) × (List (List S72)) × Int) := (spec_l15Copy.f k a0_0 a0_1 l0_2 l0_3 l0_4 l0_5 l0_6 l0_7 l0_8 l0_9 a0_10).bind fun n => (spec_FlitsOf.f k a0_0 a0_1 p0 p1 p2 p3 p4).bind fun t => if 0 ≤ p1 ∧ p1 < (n.2.2.2.2.2.2.2.2.1.length : Int) ∧ (n.2.2.2.2.2.2.2.2.1.getD p1.toNat []).length + t.length < 4294967296 then some (n.1, n.2.1, n.2.2.1, n.2.2.2.1, n.2.2.2.2.1, n.2.2.2.2.2.1, n.2.2.2.2.2.2.1, n.2.2.2.2.2.2.2.1, n.2.2.2.2.2.2.2.2.1.set p1.toNat (n.2.2.2.2.2.2.2.2.1.getD p1.toNat [] ++ t), n.2.2.2.2.2.2.2.2.2.1, n.2.2.2.2.2.2.2.2.2.2) else none
set_option maxHeartbeats 4000000 in
theorem spec_l16Send.callsM (k : Nat) (a0_0 : Int) (a0_1 : Int) (A0_2 : Option Addr) (c0_2 : Nat) (l0_2 : List Int) (A0_3 : Option Addr) (c0_3 : Nat) (l0_3 : List Int) (A0_4 : Option Addr) (c0_4 : Nat) (l0_4 : List Int) (A0_5 : Option Addr) (c0_5 : Nat) (l0_5 : List (List S72)) (A0_6 : Option Addr) (c0_6 : Nat) (l0_6 : List Int) (A0_7 : Option Addr) (c0_7 : Nat) (l0_7 : List Int) (A0_8 : Option Addr) (c0_8 : Nat) (l0_8 : List (List S72)) (A0_9 : Option Addr) (c0_9 : Nat) (l0_9 : List (List S72)) (a0_10 : Int) (p0 p1 p2 p3 p4 : Int) (r1 : Int) (r2 : Int) (r3 : List Int) (r4 : List Int) (r5 : List Int) (r6 : List (List S72)) (r7 : List Int) (r8 : List Int) (r9 : List (List S72)) (r10 : List (List S72)) (r11 : Int) (w : World) (hr0_2 : Kd.C (Kd.int .i64) w A0_2 l0_2.length l0_2) (hc0_2 : l0_2.length ≤ c0_2) (hr0_3 : Kd.C (Kd.int .i64) w A0_3 l0_3.length l0_3) (hc0_3 : l0_3.length ≤ c0_3) (hr0_4 : Kd.C (Kd.int .i64) w A0_4 l0_4.length l0_4) (hc0_4 : l0_4.length ≤ c0_4) (hr0_5 : Kd.C (Kd.slice 72 k72) w A0_5 l0_5.length l0_5) (hc0_5 : l0_5.length ≤ c0_5) (hr0_6 : Kd.C (Kd.int .i64) w A0_6 l0_6.length l0_6) (hc0_6 : l0_6.length ≤ c0_6) (hr0_7 : Kd.C (Kd.int .i64) w A0_7 l0_7.length l0_7) (hc0_7 : l0_7.length ≤ c0_7) (hr0_8 : Kd.C (Kd.slice 72 k72) w A0_8 l0_8.length l0_8) (hc0_8 : l0_8.length ≤ c0_8) (hr0_9 : Kd.C (Kd.slice 72 k72) w A0_9 l0_9.length l0_9) (hc0_9 : l0_9.length ≤ c0_9) (h : spec_l16Send.f k a0_0 a0_1 l0_2 l0_3 l0_4 l0_5 l0_6 l0_7 l0_8 l0_9 a0_10 p0 p1 p2 p3 p4 = some (r1, r2, r3, r4, r5, r6, r7, r8, r9, r10, r11)) :
  Calls Try.prog 86 #[.agg #[.int .i64 a0_0, .int .i64 a0_1, .slice A0_2 l0_2.length c0_2, .slice A0_3 l0_3.length c0_3, .slice A0_4 l0_4.length c0_4, .slice A0_5 l0_5.length c0_5, .slice A0_6 l0_6.length c0_6, .slice A0_7 l0_7.length c0_7, .slice A0_8 l0_8.length c0_8, .slice A0_9 l0_9.length c0_9, .int .i64 a0_10], .agg #[.int .i64 p0, .int .i64 p1, .int .i64 p2, .int .i64 p3, .int .i64 p4]] w fun e w' => ∃ (T_ : Nat → Nat) (v2_ v3_ v4_ v5_ v6_ v7_ v8_ v9_ : Value), e = .returned (.agg #[.int .i64 r1, .int .i64 r2, v2_, v3_, v4_, v5_, v6_, v7_, v8_, v9_, .int .i64 r11]) ∧ Marks T_ w.heap.size w' v2_ v3_ v4_ v5_ v6_ v7_ v8_ v9_ r3 r4 r5 r6 r7 r8 r9 r10 ∧ Below w.heap.size w w' := by
 have HR2 := am hr0_2; have HC2 := am hc0_2
 have HR3 := am hr0_3; have HC3 := am hc0_3
 have HR4 := am hr0_4; have HC4 := am hc0_4
 have HR5 := am hr0_5; have HC5 := am hc0_5
 have HR6 := am hr0_6; have HC6 := am hc0_6
 have HR7 := am hr0_7; have HC7 := am hc0_7
 have HR8 := am hr0_8; have HC8 := am hc0_8
 have HR9 := am hr0_9; have HC9 := am hc0_9
 have HB := am (Below.refl w.heap.size w)
 unfold spec_l16Send.f at h
 obtain ⟨⟨n1, n2, n3, n4, n5, n6, n7, n8, n9, n10, n11⟩, e1, g_⟩ := Option.bind_eq_some_iff.1 h; clear h; have h := g_; clear g_
 obtain ⟨t, e2, g_⟩ := Option.bind_eq_some_iff.1 h; clear h; have h := g_; clear g_
 dsimp only at h
 by_cases c : 0 ≤ p1 ∧ p1 < (n9.length : Int) ∧ (n9.getD p1.toNat []).length + t.length < 4294967296
 rotate_left
 ·rw [if_neg c] at h; cases h
 rw [if_pos c] at h
 obtain ⟨q9, hq⟩ : ∃ y_, y_ = n9.set p1.toNat (n9.getD p1.toNat [] ++ t) := ⟨_, rfl⟩
 rw [← hq] at h
 simp only [Option.some.injEq, Prod.mk.injEq] at h
 obtain ⟨rfl, rfl, rfl, rfl, rfl, rfl, rfl, rfl, rfl, rfl, rfl⟩ := h
 have E1 := am e1; have E2 := am e2; have CC := am c; have HQ := am hq
 clear e1 e2 c hq hr0_2 hc0_2 hr0_3 hc0_3 hr0_4 hc0_4 hr0_5 hc0_5 hr0_6 hc0_6 hr0_7 hc0_7 hr0_8 hc0_8 hr0_9 hc0_9
 have hu35 := Try.underlying35; have hu89 := Try.underlying89
 go_enter Try.func86, Try.ntmps86
 go_upto_region 2 with (first | ((with_reducible refine gate_dst (N := 2) rfl ?_); refine bx_ 2 #[.int .i64 a0_0, .int .i64 a0_1, .slice A0_2 l0_2.length c0_2, .slice A0_3 l0_3.length c0_3, .slice A0_4 l0_4.length c0_4, .slice A0_5 l0_5.length c0_5, .slice A0_6 l0_6.length c0_6, .slice A0_7 l0_7.length c0_7, .slice A0_8 l0_8.length c0_8, .slice A0_9 l0_9.length c0_9, .int .i64 a0_10] 35 ?_; intro gn hg w1 hbox hb; have BN := am hbox; replace HB := h9_ HB hb; clear hb hbox hg) | ((with_reducible refine gate_dst (N := 3) rfl ?_); refine bx_ 3 #[.int .i64 p0, .int .i64 p1, .int .i64 p2, .int .i64 p3, .int .i64 p4] 89 ?_; intro gp hg w1 hbox hb; have BP := am hbox; replace BN := kb_ BN hb; replace HB := h9_ HB hb; clear hb hbox hg) | ((with_reducible refine gate_dst (N := 4) rfl ?_); refine bx_ 4 #[.int .i64 0, .int .i64 0, .slice none 0 0, .slice none 0 0, .slice none 0 0, .slice none 0 0, .slice none 0 0, .slice none 0 0, .slice none 0 0, .slice none 0 0, .int .i64 0] 35 ?_; intro g4 hg w1 hbox hb; have B4 := am hbox; have G4 := am (show w.heap.size ≤ g4 by rw [hg]; exact (bz_ HB.out)); replace BN := kb_ BN hb; replace BP := kb_ BP hb; replace HB := h9_ HB hb; clear hb hbox hg; obtain ⟨y0, y1, y2, y3, y4, y5, y6, y7, y8, y9, y10, -⟩ := cz11_ BN.out) | (go_at_call 62; (with_reducible refine (spec_l15Copy.callsM k a0_0 a0_1 _ _ l0_2 _ _ l0_3 _ _ l0_4 _ _ l0_5 _ _ l0_6 _ _ l0_7 _ _ l0_8 _ _ l0_9 a0_10 n1 n2 n3 n4 n5 n6 n7 n8 n9 n10 n11 _ ?s2 HC2.out ?s3 HC3.out ?s4 HC4.out ?s5 HC5.out ?s6 HC6.out ?s7 HC7.out ?s8 HC8.out ?s9 HC9.out E1.out).mono ?_); (case s2 => exact cb_ HR2.out HB.out); (case s3 => exact cb_ HR3.out HB.out); (case s4 => exact cb_ HR4.out HB.out); (case s5 => exact cb_ HR5.out HB.out); (case s6 => exact cb_ HR6.out HB.out); (case s7 => exact cb_ HR7.out HB.out); (case s8 => exact cb_ HR8.out HB.out); (case s9 => exact cb_ HR9.out HB.out); rintro e w2 ⟨T, v2, v3, v4, v5, v6, v7, v8, v9, rfl, hM, hb⟩; obtain ⟨X2, d2, e_⟩ := Kd.R_slice hM.h2; subst e_; obtain ⟨X3, d3, e_⟩ := Kd.R_slice hM.h3; subst e_; obtain ⟨X4, d4, e_⟩ := Kd.R_slice hM.h4; subst e_; obtain ⟨X5, d5, e_⟩ := Kd.S_slice hM.h5; subst e_; obtain ⟨X6, d6, e_⟩ := Kd.R_slice hM.h6; subst e_; obtain ⟨X7, d7, e_⟩ := Kd.R_slice hM.h7; subst e_; obtain ⟨X8, d8, e_⟩ := Kd.S_slice hM.h8; subst e_; obtain ⟨X9, d9, e_⟩ := Kd.S_slice hM.h9; subst e_; have TN := am (show T gn = 0 from hM.zlo (blk_lt (bq_ BN.out))); have TP := am (show T gp = 0 from hM.zlo (blk_lt (bq_ BP.out))); have T4 := am (show T g4 = 0 from hM.zlo (blk_lt (bq_ B4.out))); have M := am (hM.lower (bz_ HB.out)); replace BN := kb_ BN hb; replace BP := kb_ BP hb; replace B4 := kb_ B4 hb; replace HB := h9_ HB hb; clear hb hM y0 y1 y2 y3 y4 y5 y6 y7 y8 y9 y10))
 have hb_ := below_alloc (Below.refl w2.heap.size w2) (Obj.cells #[.int .i64 n1, .int .i64 n2, .slice X2 n3.length d2, .slice X3 n4.length d3, .slice X4 n5.length d4, .slice X5 n6.length d5, .slice X6 n7.length d6, .slice X7 n8.length d7, .slice X8 n9.length d8, .slice X9 n10.length d9, .int .i64 n11] 35 (0, 0))
 have BO := am (blk_new w2 (Obj.cells #[.int .i64 n1, .int .i64 n2, .slice X2 n3.length d2, .slice X3 n4.length d3, .slice X4 n5.length d4, .slice X5 n6.length d5, .slice X6 n7.length d6, .slice X7 n8.length d7, .slice X8 n9.length d8, .slice X9 n10.length d9, .int .i64 n11] 35 (0, 0))); have TO := am (show T w2.heap.size = 0 from M.out.zhi (Nat.le_refl _)); have GO := am (show w.heap.size ≤ w2.heap.size from bz_ HB.out)
 replace BN := kb_ BN hb_
 replace BP := kb_ BP hb_
 replace B4 := kb_ B4 hb_
 replace M := am (M.out.below hb_); replace HB := h9_ HB hb_
 obtain ⟨go, hg_⟩ : ∃ g_, g_ = w2.heap.size := ⟨_, rfl⟩
 rw [← hg_] at BO TO GO ⊢
 clear hb_ hg_
 generalize w2.alloc (Obj.cells #[.int .i64 n1, .int .i64 n2, .slice X2 n3.length d2, .slice X3 n4.length d3, .slice X4 n5.length d4, .slice X5 n6.length d5, .slice X6 n7.length d6, .slice X7 n8.length d7, .slice X8 n9.length d8, .slice X9 n10.length d9, .int .i64 n11] 35 (0, 0)) = w3 at *
 obtain ⟨c0, c1, c2⟩ := CC.out
 obtain ⟨g8, z8, oki, Ae, z9, ev, hT8, hl8, hx, hf, hR, HI, HH⟩ := M.out.get_8 (i := p1) c0 c1
 obtain ⟨el, hel⟩ : ∃ y_, n9.getD p1.toNat [] = y_ := ⟨_, rfl⟩
 rw [hel] at hx hR HH c2
 injection ev with ev1 _ ev2
 subst ev1; subst ev2
 have HX := am hx; have HRR := am hR; have HII := am HI; have HHH := am HH; have T8 := am hT8; have C0 := am c0; have C1 := am c1; have C2 := am c2; have HEL := am hel
 clear hx hf hR HI HH hT8 hl8 c0 c1 c2 hel CC
 have p6 := eq_true C0.out; have q6 := eq_true C1.out
 refine start_ (n := 18) (S := fun w' => w'.cell? ⟨go, 8, none⟩ = some (.slice (some ⟨g8, 0, none⟩) n9.length d8) ∧ w'.cell? ⟨gp, 0, none⟩ = some (.int .i64 p0) ∧ w'.cell? ⟨gp, 1, none⟩ = some (.int .i64 p1) ∧ w'.cell? ⟨gp, 2, none⟩ = some (.int .i64 p2) ∧ w'.cell? ⟨gp, 3, none⟩ = some (.int .i64 p3) ∧ w'.cell? ⟨gp, 4, none⟩ = some (.int .i64 p4) ∧ w'.cell? ⟨gn, 0, none⟩ = some (.int .i64 a0_0) ∧ w'.cell? ⟨gn, 1, none⟩ = some (.int .i64 a0_1) ∧ w'.cell? ⟨g8, p1.toNat, none⟩ = some (.slice Ae el.length z9)) (ds := [17]) #[false, false, false, false, false, false, false, false, false, false, false, false, false, false, false, false, false, false] (by kernel_rfl) rfl rfl ⟨(blk_cell BO.out 8).trans rfl, (blk_cell BP.out 0).trans rfl, (blk_cell BP.out 1).trans rfl, (blk_cell BP.out 2).trans rfl, (blk_cell BP.out 3).trans rfl, (blk_cell BP.out 4).trans rfl, (blk_cell BN.out 0).trans rfl, (blk_cell BN.out 1).trans rfl, HX.out⟩ (fun hHeld => ?_)
 replace BN := am (bq_ BN.out : w3.drew.heap[gn]? = some _)
 replace BP := am (bq_ BP.out : w3.drew.heap[gp]? = some _)
 replace B4 := am (bq_ B4.out : w3.drew.heap[g4]? = some _)
 replace BO := am (bq_ BO.out : w3.drew.heap[go]? = some _)
 replace M := am (M.out.move (w1 := w3.drew) (fun _ _ => rfl) (Nat.le_refl _)); replace HB := am (bb_ HB.out : Below w.heap.size w w3.drew); replace HRR := am (Kd.R_drew HRR.out); replace HHH := am (show Kd.H (Kd.slice 72 k72) 42 w3.drew w.heap.size (fun k => T k = 8 ∨ w3.drew.heap.size ≤ k) (.slice (some ⟨g8, 0, none⟩) n9.length d8) n9 p1 oki [.slice Ae el.length z9] from Kd.H_drew HHH.out); replace HII := am (show ∀ k, oki k → (T k = 8 ∨ w3.drew.heap.size ≤ k) ∧ k ≠ g8 from HII.out)
 generalize w3.drew = w4 at *
 refine pk_ 0 8 (bt_ 18 1) ?_
 refine tk_ (v := .slice (some ⟨g8, 0, none⟩) n9.length d8) 1 9 (bt_ 18 3) hHeld ?_ (hy := by rintro w' ⟨s0, s1, s2, s3, s4, s5, s6, s7, s8⟩; go_simp)
 refine pk_ 2 10 (bt_ 18 7) ?_
 refine tk_ (v := .int .i64 p1) 3 11 (bt_ 18 15) hHeld ?_ (hy := by rintro w' ⟨s0, s1, s2, s3, s4, s5, s6, s7, s8⟩; go_simp)
 refine pk_ 4 12 (bt_ 18 31) ?_
 refine tk_ (v := .slice (some ⟨g8, 0, none⟩) n9.length d8) 5 13 (bt_ 18 63) hHeld ?_ (hy := by rintro w' ⟨s0, s1, s2, s3, s4, s5, s6, s7, s8⟩; go_simp)
 refine pk_ 6 14 (bt_ 18 127) ?_
 refine tk_ (v := .int .i64 p1) 7 15 (bt_ 18 255) hHeld ?_ (hy := by rintro w' ⟨s0, s1, s2, s3, s4, s5, s6, s7, s8⟩; go_simp)
 refine pk_ 8 16 (bt_ 18 511) ?_
 refine tk_ (v := .slice Ae el.length z9) 9 17 (bt_ 18 1023) hHeld ?_ (hy := by rintro w' ⟨s0, s1, s2, s3, s4, s5, s6, s7, s8⟩; go_simp)
 refine pk_ 10 18 (bt_ 18 2047) ?_
 refine pk_ 11 19 (bt_ 18 4095) ?_
 refine tk_ (v := .agg #[.int .i64 a0_0, .int .i64 a0_1]) 12 20 (bt_ 18 8191) hHeld ?_ (hy := by rintro w' ⟨s0, s1, s2, s3, s4, s5, s6, s7, s8⟩; go_simp)
 refine tk_ (v := .agg #[.int .i64 p0, .int .i64 p1, .int .i64 p2, .int .i64 p3, .int .i64 p4]) 13 21 (bt_ 18 16383) hHeld ?_ (hy := by rintro w' ⟨s0, s1, s2, s3, s4, s5, s6, s7, s8⟩; go_simp)
 refine one_ (i := 14) (N := some 22) (bt_ 18 32767) rfl rfl (by kernel_rfl) (by decide) (fun K hK => ?_)
 refine gs_ Try.func99 #[.agg #[.int .i64 a0_0, .int .i64 a0_1], .agg #[.int .i64 p0, .int .i64 p1, .int .i64 p2, .int .i64 p3, .int .i64 p4]] ?_
 with_reducible refine (spec_FlitsOf.calls k a0_0 a0_1 p0 p1 p2 p3 p4 t _ E2.out).mono ?_
 rintro e w5 ⟨vt, rfl, ho, hb⟩
 refine ⟨_, rfl, ?_⟩
 have HT := am (Kd.R_lower ho (bz_ HB.out)); obtain ⟨At, ct, e_⟩ := Kd.R_slice ho; subst e_
 have HX5 := am (lent_cell HHH.out C0.out C1.out (grown_of_below hb none) (fun _ e_ => by cases e_)).1; have HR5 := am (Kd.R_below HRR.out hb); have B45 := am hb; have HB5 := am (bs_ HB.out hb)
 have BN5 := am (bk_ BN.out hb)
 have BP5 := am (bk_ BP.out hb)
 have BO5 := am (bk_ BO.out hb)
 clear ho hb
 refine hK.out _ _ ⟨(blk_cell BO5.out 8).trans rfl, (blk_cell BP5.out 0).trans rfl, (blk_cell BP5.out 1).trans rfl, (blk_cell BP5.out 2).trans rfl, (blk_cell BP5.out 3).trans rfl, (blk_cell BP5.out 4).trans rfl, (blk_cell BN5.out 0).trans rfl, (blk_cell BN5.out 1).trans rfl, HX5.out⟩ (fun hHeld => ?_)
 clear hK K
 refine nm_ 22 ?_
 refine one_ (i := 15) (N := some 23) (bt_ 18 65535) rfl rfl (by kernel_rfl) (by decide) (fun K hK => ?_)
 refine Kd.R_append_rows_step k72 (w0 := w) w.heap.size (by rfl) (.tmp 17) (.tmp 22) 42 72 (.agg #[.int .i64 0, .int .i64 0, .int .i64 0, .bool false, .bool false]) 32 rfl Try.underlying42 info72 rfl (by decide) (by omega) (.slice Ae el.length z9) el t _ _ _ (fun k_ => oki k_ ∨ w5.heap.size ≤ k_) (fun _ => False) rfl rfl ?aO ?aR (fun _ _ h => h) (fun _ h => h.elim) ?aF ?aB ?aS ?aL ?_
 (case aR => exact (Kd.R_reads' HT.out).2.2)
 (case aB => exact bb_ HB5.out)
 (case aF => exact fun k_ h_ => Or.inr h_)
 (case aO => exact Kd.R_mono (ra_ HR5.out) (fun k_ h_ => Or.inl h_))
 (case aS => exact (bz_ HB5.out))
 (case aL => have := C2.out; omega)
 intro v_ w8 ho hb hg hat
 have HG := am (gt_ B45.out hg); have HB8 := am hb
 have BN8 := am (blk_grown (bq_ BN5.out) hg (Kd.R_ne HR5.out BN5.out (by decide)))
 have BP8 := am (blk_grown (bq_ BP5.out) hg (Kd.R_ne HR5.out BP5.out (by decide)))
 have BO8 := am (blk_grown (bq_ BO5.out) hg (Kd.R_ne HR5.out BO5.out (by decide)))
 have hrow : ∀ k_, (.slice Ae el.length z9 : Value).ownBlock = some k_ → oki k_ := fun k_ e_ => HRR.out.1 k_ e_
 obtain ⟨hx8, hf8⟩ := lent_cell HHH.out C0.out C1.out HG.out hrow
 have HO := am (Kd.R_mono ho (fun k_ h_ => h_.elim Or.inl (fun h2_ => Or.inr (Nat.le_trans B45.out.size h2_)) : ∀ k_, _ → oki k_ ∨ w4.heap.size ≤ k_)); obtain ⟨Ao, co, e_⟩ := Kd.R_slice ho; subst e_
 clear ho hb hg hat
 refine hK.out _ _ ⟨(blk_cell BO8.out 8).trans rfl, (blk_cell BP8.out 0).trans rfl, (blk_cell BP8.out 1).trans rfl, (blk_cell BP8.out 2).trans rfl, (blk_cell BP8.out 3).trans rfl, (blk_cell BP8.out 4).trans rfl, (blk_cell BN8.out 0).trans rfl, (blk_cell BN8.out 1).trans rfl, hx8⟩ (fun hHeld => ?_)
 clear hK K
 refine nm_ 23 ?_
 refine pk_ 16 24 (bt_ 18 131071) ?_
 refine last_ (i := 17) (N := none) (bt_ 18 262143) rfl rfl (by kernel_rfl) (by decide) (fun K hK => ?_)
 refine skip_ (w1 := ?_) (by rfl) rfl ?_ ?_
 rotate_left
 ·go_simp
  rfl
 refine hK.out _ _ ?_
 clear hK K hHeld hx8 hf8 p6 q6
 refine done_ (by kernel_rfl) ?_
 obtain ⟨⟨T', hT', hM'⟩, hK9⟩ := M.out.put_8 (bz_ HB.out) C0.out C1.out rfl T8.out HII.out HHH.out HG.out hrow rfl HO.out
 rw [show n9.set p1.toNat (el ++ t) = q9 by rw [HQ.out, HEL.out], List.length_append] at hM'; rw [List.length_append] at hK9
 have hl8 := M.out.lo g8 (by rw [T8.out]; decide)
 replace M := am hM'
 have T49 := am ((hT' g4 (blk_lt B4.out)).trans T4.out); replace B4 := am (blk_kept B4.out hK9 (fun h_ => by have h2_ := T4.out; rw [h_] at h2_; cases h2_))
 have TO9 := am ((hT' go (blk_lt BO.out)).trans TO.out); replace BO := am (blk_kept BO.out hK9 (fun h_ => by have h2_ := TO.out; rw [h_] at h2_; cases h2_))
 replace HB := am (below_set HB8.out hl8 : Below w.heap.size w (w8.setCell ⟨g8, p1.toNat, none⟩ (.slice Ao (el.length + t.length) co)))
 generalize w8.setCell ⟨g8, p1.toNat, none⟩ (.slice Ao (el.length + t.length) co) = wf at *
 clear hK9 hM' hT' HRR HR5 HHH HII HG HO B45 HB5 HB8 BN BP BN5 BP5 BO5 BN8 BP8 BO8 HX HX5 HT hrow
 obtain ⟨y0, y1, y2, y3, y4, y5, y6, y7, y8, y9, y10, -⟩ := cz11_ BO.out; obtain ⟨z0, z1, z2, z3, z4, z5, z6, z7, z8, z9, z10, zf0, zf1, zf2, zf3, zf4, zf5, zf6, zf7, zf8, zf9, zf10⟩ := cz11_ B4.out
 go_wp2
 clear y0 y1 y2 y3 y4 y5 y6 y7 y8 y9 y10 z0 z1 z2 z3 z4 z5 z6 z7 z8 z9 z10 zf0 zf1 zf2 zf3 zf4 zf5 zf6 zf7 zf8 zf9 zf10
 change bodyPost _ _ _ _ _ (st11_ _ g4 (.int .i64 n1) (.int .i64 n2) (.slice X2 n3.length d2) (.slice X3 n4.length d3) (.slice X4 n5.length d4) (.slice X5 n6.length d5) (.slice X6 n7.length d6) (.slice X7 n8.length d7) (.slice (some ⟨g8, 0, none⟩) n9.length d8) (.slice X9 n10.length d9) (.int .i64 n11))
 replace M := am (M.out.move (w1 := st11_ _ g4 (.int .i64 n1) (.int .i64 n2) (.slice X2 n3.length d2) (.slice X3 n4.length d3) (.slice X4 n5.length d4) (.slice X5 n6.length d5) (.slice X6 n7.length d6) (.slice X7 n8.length d7) (.slice (some ⟨g8, 0, none⟩) n9.length d8) (.slice X9 n10.length d9) (.int .i64 n11)) (fun k_ h_ => st11_far (fun e_ => h_ (e_ ▸ T49.out))) (Nat.le_of_eq st11_size.symm)); replace B4 := am (st11_blk B4.out : (st11_ _ g4 (.int .i64 n1) (.int .i64 n2) (.slice X2 n3.length d2) (.slice X3 n4.length d3) (.slice X4 n5.length d4) (.slice X5 n6.length d5) (.slice X6 n7.length d6) (.slice X7 n8.length d7) (.slice (some ⟨g8, 0, none⟩) n9.length d8) (.slice X9 n10.length d9) (.int .i64 n11)).heap[g4]? = _); replace HB := am (st11_below HB.out G4.out : Below w.heap.size w (st11_ _ g4 (.int .i64 n1) (.int .i64 n2) (.slice X2 n3.length d2) (.slice X3 n4.length d3) (.slice X4 n5.length d4) (.slice X5 n6.length d5) (.slice X6 n7.length d6) (.slice X7 n8.length d7) (.slice (some ⟨g8, 0, none⟩) n9.length d8) (.slice X9 n10.length d9) (.int .i64 n11))); generalize st11_ _ g4 (.int .i64 n1) (.int .i64 n2) (.slice X2 n3.length d2) (.slice X3 n4.length d3) (.slice X4 n5.length d4) (.slice X5 n6.length d5) (.slice X6 n7.length d6) (.slice X7 n8.length d7) (.slice (some ⟨g8, 0, none⟩) n9.length d8) (.slice X9 n10.length d9) (.int .i64 n11) = wz at *
 refine bodyPost_ret (results_cell_row rfl _ _ g4 35 _ (0, 0) _ rfl (bq_ B4.out) Try.underlying35 rfl (by kernel_rfl)) rfl ?_
 exact ⟨T', _, _, _, _, _, _, _, _, rfl, M.out.belowV (Below.refl _ _), bb_ HB.out⟩
theorem spec_l16Send.calls (k : Nat) (a0_0 : Int) (a0_1 : Int) (A0_2 : Option Addr) (c0_2 : Nat) (l0_2 : List Int) (A0_3 : Option Addr) (c0_3 : Nat) (l0_3 : List Int) (A0_4 : Option Addr) (c0_4 : Nat) (l0_4 : List Int) (A0_5 : Option Addr) (c0_5 : Nat) (l0_5 : List (List S72)) (A0_6 : Option Addr) (c0_6 : Nat) (l0_6 : List Int) (A0_7 : Option Addr) (c0_7 : Nat) (l0_7 : List Int) (A0_8 : Option Addr) (c0_8 : Nat) (l0_8 : List (List S72)) (A0_9 : Option Addr) (c0_9 : Nat) (l0_9 : List (List S72)) (a0_10 : Int) (p0 p1 p2 p3 p4 : Int) (r1 : Int) (r2 : Int) (r3 : List Int) (r4 : List Int) (r5 : List Int) (r6 : List (List S72)) (r7 : List Int) (r8 : List Int) (r9 : List (List S72)) (r10 : List (List S72)) (r11 : Int) (w : World) (hr0_2 : Kd.C (Kd.int .i64) w A0_2 l0_2.length l0_2) (hc0_2 : l0_2.length ≤ c0_2) (hr0_3 : Kd.C (Kd.int .i64) w A0_3 l0_3.length l0_3) (hc0_3 : l0_3.length ≤ c0_3) (hr0_4 : Kd.C (Kd.int .i64) w A0_4 l0_4.length l0_4) (hc0_4 : l0_4.length ≤ c0_4) (hr0_5 : Kd.C (Kd.slice 72 k72) w A0_5 l0_5.length l0_5) (hc0_5 : l0_5.length ≤ c0_5) (hr0_6 : Kd.C (Kd.int .i64) w A0_6 l0_6.length l0_6) (hc0_6 : l0_6.length ≤ c0_6) (hr0_7 : Kd.C (Kd.int .i64) w A0_7 l0_7.length l0_7) (hc0_7 : l0_7.length ≤ c0_7) (hr0_8 : Kd.C (Kd.slice 72 k72) w A0_8 l0_8.length l0_8) (hc0_8 : l0_8.length ≤ c0_8) (hr0_9 : Kd.C (Kd.slice 72 k72) w A0_9 l0_9.length l0_9) (hc0_9 : l0_9.length ≤ c0_9) (h : spec_l16Send.f k a0_0 a0_1 l0_2 l0_3 l0_4 l0_5 l0_6 l0_7 l0_8 l0_9 a0_10 p0 p1 p2 p3 p4 = some (r1, r2, r3, r4, r5, r6, r7, r8, r9, r10, r11)) :
  Calls Try.prog 86 #[.agg #[.int .i64 a0_0, .int .i64 a0_1, .slice A0_2 l0_2.length c0_2, .slice A0_3 l0_3.length c0_3, .slice A0_4 l0_4.length c0_4, .slice A0_5 l0_5.length c0_5, .slice A0_6 l0_6.length c0_6, .slice A0_7 l0_7.length c0_7, .slice A0_8 l0_8.length c0_8, .slice A0_9 l0_9.length c0_9, .int .i64 a0_10], .agg #[.int .i64 p0, .int .i64 p1, .int .i64 p2, .int .i64 p3, .int .i64 p4]] w fun e w' => ∃ v2_ v3_ v4_ v5_ v6_ v7_ v8_ v9_ : Value, e = .returned (.agg #[.int .i64 r1, .int .i64 r2, v2_, v3_, v4_, v5_, v6_, v7_, v8_, v9_, .int .i64 r11]) ∧ Kd.R (Kd.int .i64) 3 w' w.heap.size (fun k_ => some k_ ≠ (v3_ : Value).ownBlock ∧ some k_ ≠ (v4_ : Value).ownBlock ∧ some k_ ≠ (v6_ : Value).ownBlock ∧ some k_ ≠ (v7_ : Value).ownBlock) v2_ r3 ∧ Kd.R (Kd.int .i64) 3 w' w.heap.size (fun k_ => some k_ ≠ (v2_ : Value).ownBlock ∧ some k_ ≠ (v4_ : Value).ownBlock ∧ some k_ ≠ (v6_ : Value).ownBlock ∧ some k_ ≠ (v7_ : Value).ownBlock) v3_ r4 ∧ Kd.R (Kd.int .i64) 3 w' w.heap.size (fun k_ => some k_ ≠ (v2_ : Value).ownBlock ∧ some k_ ≠ (v3_ : Value).ownBlock ∧ some k_ ≠ (v6_ : Value).ownBlock ∧ some k_ ≠ (v7_ : Value).ownBlock) v4_ r5 ∧ Kd.S (Kd.slice 72 k72) 42 w' w.heap.size (fun k_ => some k_ ≠ (v8_ : Value).ownBlock ∧ some k_ ≠ (v9_ : Value).ownBlock) v5_ r6 ∧ Kd.R (Kd.int .i64) 3 w' w.heap.size (fun k_ => some k_ ≠ (v2_ : Value).ownBlock ∧ some k_ ≠ (v3_ : Value).ownBlock ∧ some k_ ≠ (v4_ : Value).ownBlock ∧ some k_ ≠ (v7_ : Value).ownBlock) v6_ r7 ∧ Kd.R (Kd.int .i64) 3 w' w.heap.size (fun k_ => some k_ ≠ (v2_ : Value).ownBlock ∧ some k_ ≠ (v3_ : Value).ownBlock ∧ some k_ ≠ (v4_ : Value).ownBlock ∧ some k_ ≠ (v6_ : Value).ownBlock) v7_ r8 ∧ Kd.S (Kd.slice 72 k72) 42 w' w.heap.size (fun k_ => some k_ ≠ (v5_ : Value).ownBlock ∧ some k_ ≠ (v9_ : Value).ownBlock) v8_ r9 ∧ Kd.S (Kd.slice 72 k72) 42 w' w.heap.size (fun k_ => some k_ ≠ (v5_ : Value).ownBlock ∧ some k_ ≠ (v8_ : Value).ownBlock) v9_ r10 ∧ Below w.heap.size w w' :=
 (spec_l16Send.callsM k a0_0 a0_1 _ _ l0_2 _ _ l0_3 _ _ l0_4 _ _ l0_5 _ _ l0_6 _ _ l0_7 _ _ l0_8 _ _ l0_9 a0_10 p0 p1 p2 p3 p4 r1 r2 r3 r4 r5 r6 r7 r8 r9 r10 r11 w hr0_2 hc0_2 hr0_3 hc0_3 hr0_4 hc0_4 hr0_5 hc0_5 hr0_6 hc0_6 hr0_7 hc0_7 hr0_8 hc0_8 hr0_9 hc0_9 h).mono (fun e w' ⟨T, v2, v3, v4, v5, v6, v7, v8, v9, he, hM, hb⟩ => by obtain ⟨s2, s3, s4, s5, s6, s7, s8, s9⟩ := hM.std; exact ⟨_, _, _, _, _, _, _, _, he, s2, s3, s4, s5, s6, s7, s8, s9, hb⟩)
structure Std8 (B : Nat) (w : World) (v2 v3 v4 v5 v6 v7 v8 v9 : Value) (l2 : List Int) (l3 : List Int) (l4 : List Int) (l5 : List (List S72)) (l6 : List Int) (l7 : List Int) (l8 : List (List S72)) (l9 : List (List S72)) : Prop where
 h2 : Kd.R (Kd.int .i64) 3 w B (fun k_ => some k_ ≠ (v3 : Value).ownBlock ∧ some k_ ≠ (v4 : Value).ownBlock ∧ some k_ ≠ (v6 : Value).ownBlock ∧ some k_ ≠ (v7 : Value).ownBlock) v2 l2
 h3 : Kd.R (Kd.int .i64) 3 w B (fun k_ => some k_ ≠ (v2 : Value).ownBlock ∧ some k_ ≠ (v4 : Value).ownBlock ∧ some k_ ≠ (v6 : Value).ownBlock ∧ some k_ ≠ (v7 : Value).ownBlock) v3 l3
 h4 : Kd.R (Kd.int .i64) 3 w B (fun k_ => some k_ ≠ (v2 : Value).ownBlock ∧ some k_ ≠ (v3 : Value).ownBlock ∧ some k_ ≠ (v6 : Value).ownBlock ∧ some k_ ≠ (v7 : Value).ownBlock) v4 l4
 h5 : Kd.S (Kd.slice 72 k72) 42 w B (fun k_ => some k_ ≠ (v8 : Value).ownBlock ∧ some k_ ≠ (v9 : Value).ownBlock) v5 l5
 h6 : Kd.R (Kd.int .i64) 3 w B (fun k_ => some k_ ≠ (v2 : Value).ownBlock ∧ some k_ ≠ (v3 : Value).ownBlock ∧ some k_ ≠ (v4 : Value).ownBlock ∧ some k_ ≠ (v7 : Value).ownBlock) v6 l6
 h7 : Kd.R (Kd.int .i64) 3 w B (fun k_ => some k_ ≠ (v2 : Value).ownBlock ∧ some k_ ≠ (v3 : Value).ownBlock ∧ some k_ ≠ (v4 : Value).ownBlock ∧ some k_ ≠ (v6 : Value).ownBlock) v7 l7
 h8 : Kd.S (Kd.slice 72 k72) 42 w B (fun k_ => some k_ ≠ (v5 : Value).ownBlock ∧ some k_ ≠ (v9 : Value).ownBlock) v8 l8
 h9 : Kd.S (Kd.slice 72 k72) 42 w B (fun k_ => some k_ ≠ (v5 : Value).ownBlock ∧ some k_ ≠ (v8 : Value).ownBlock) v9 l9
section
variable {B B' g : Nat} {w w1 : World} {cs : Array Value} {v2 v3 v4 v5 v6 v7 v8 v9 : Value} {l2 : List Int} {l3 : List Int} {l4 : List Int} {l5 : List (List S72)} {l6 : List Int} {l7 : List Int} {l8 : List (List S72)} {l9 : List (List S72)}
theorem Std8.below (h : Std8 B w v2 v3 v4 v5 v6 v7 v8 v9 l2 l3 l4 l5 l6 l7 l8 l9) (hb : Below w.heap.size w w1) : Std8 B w1 v2 v3 v4 v5 v6 v7 v8 v9 l2 l3 l4 l5 l6 l7 l8 l9 := ⟨Kd.R_below h.h2 hb, Kd.R_below h.h3 hb, Kd.R_below h.h4 hb, Kd.S_below h.h5 hb, Kd.R_below h.h6 hb, Kd.R_below h.h7 hb, Kd.S_below h.h8 hb, Kd.S_below h.h9 hb⟩
theorem Std8.lower (h : Std8 B w v2 v3 v4 v5 v6 v7 v8 v9 l2 l3 l4 l5 l6 l7 l8 l9) (hb : B' ≤ B) : Std8 B' w v2 v3 v4 v5 v6 v7 v8 v9 l2 l3 l4 l5 l6 l7 l8 l9 := ⟨Kd.R_lower h.h2 hb, Kd.R_lower h.h3 hb, Kd.R_lower h.h4 hb, Kd.S_lower h.h5 hb, Kd.R_lower h.h6 hb, Kd.R_lower h.h7 hb, Kd.S_lower h.h8 hb, Kd.S_lower h.h9 hb⟩
theorem Std8.far (h : Std8 B w v2 v3 v4 v5 v6 v7 v8 v9 l2 l3 l4 l5 l6 l7 l8 l9) (hb : w.heap[g]? = some (.cells cs 35 (0, 0))) (hm : ∀ k, k ≠ g → w1.heap[k]? = w.heap[k]?) : Std8 B w1 v2 v3 v4 v5 v6 v7 v8 v9 l2 l3 l4 l5 l6 l7 l8 l9 := ⟨Kd.R_mono (Kd.R_move (Kd.R_types h.h2 hb (by decide)) (fun k h_ => hm k h_.2)) (fun _ h_ => h_.1), Kd.R_mono (Kd.R_move (Kd.R_types h.h3 hb (by decide)) (fun k h_ => hm k h_.2)) (fun _ h_ => h_.1), Kd.R_mono (Kd.R_move (Kd.R_types h.h4 hb (by decide)) (fun k h_ => hm k h_.2)) (fun _ h_ => h_.1), Kd.S_mono (Kd.S_move (Kd.S_types h.h5 hb (by decide)) (fun k h_ => hm k h_.2)) (fun _ h_ => h_.1), Kd.R_mono (Kd.R_move (Kd.R_types h.h6 hb (by decide)) (fun k h_ => hm k h_.2)) (fun _ h_ => h_.1), Kd.R_mono (Kd.R_move (Kd.R_types h.h7 hb (by decide)) (fun k h_ => hm k h_.2)) (fun _ h_ => h_.1), Kd.S_mono (Kd.S_move (Kd.S_types h.h8 hb (by decide)) (fun k h_ => hm k h_.2)) (fun _ h_ => h_.1), Kd.S_mono (Kd.S_move (Kd.S_types h.h9 hb (by decide)) (fun k h_ => hm k h_.2)) (fun _ h_ => h_.1)⟩
theorem Std8.keep (h : Std8 B w v2 v3 v4 v5 v6 v7 v8 v9 l2 l3 l4 l5 l6 l7 l8 l9) (hg : g < B) (hk : KeepBut w w1 g none) : Std8 B w1 v2 v3 v4 v5 v6 v7 v8 v9 l2 l3 l4 l5 l6 l7 l8 l9 := ⟨Kd.R_mono (Kd.R_keep (Kd.R_bound h.h2) hk (fun k h_ => by have := h_.2.1; omega)) (fun _ h_ => h_.1), Kd.R_mono (Kd.R_keep (Kd.R_bound h.h3) hk (fun k h_ => by have := h_.2.1; omega)) (fun _ h_ => h_.1), Kd.R_mono (Kd.R_keep (Kd.R_bound h.h4) hk (fun k h_ => by have := h_.2.1; omega)) (fun _ h_ => h_.1), Kd.S_mono (Kd.S_keep (Kd.S_bound h.h5) hk (fun k h_ => by have := h_.2.1; omega)) (fun _ h_ => h_.1), Kd.R_mono (Kd.R_keep (Kd.R_bound h.h6) hk (fun k h_ => by have := h_.2.1; omega)) (fun _ h_ => h_.1), Kd.R_mono (Kd.R_keep (Kd.R_bound h.h7) hk (fun k h_ => by have := h_.2.1; omega)) (fun _ h_ => h_.1), Kd.S_mono (Kd.S_keep (Kd.S_bound h.h8) hk (fun k h_ => by have := h_.2.1; omega)) (fun _ h_ => h_.1), Kd.S_mono (Kd.S_keep (Kd.S_bound h.h9) hk (fun k h_ => by have := h_.2.1; omega)) (fun _ h_ => h_.1)⟩
theorem Std8.drew (h : Std8 B w v2 v3 v4 v5 v6 v7 v8 v9 l2 l3 l4 l5 l6 l7 l8 l9) : Std8 B w.drew v2 v3 v4 v5 v6 v7 v8 v9 l2 l3 l4 l5 l6 l7 l8 l9 := ⟨Kd.R_drew h.h2, Kd.R_drew h.h3, Kd.R_drew h.h4, Kd.S_drew h.h5, Kd.R_drew h.h6, Kd.R_drew h.h7, Kd.S_drew h.h8, Kd.S_drew h.h9⟩
end
def spec_SendPacket.f (k : Nat) (a0_0 : Int) (a0_1 : Int) (l0_2 : List Int) (l0_3 : List Int) (l0_4 : List Int) (l0_5 : List (List S72)) (l0_6 : List Int) (l0_7 : List Int) (l0_8 : List (List S72)) (l0_9 : List (List S72)) (a0_10 : Int) (p0 p1 p2 p3 p4 : Int) : Option (Int × Int × List Int × List Int × List Int × (List (List S72)) × List Int × List Int × (List (List S72)) × (List (List S72)) × Int × Bool) := (spec_NetOk.f k a0_0 a0_1 l0_2 l0_3 l0_4 l0_5 l0_6 l0_7 l0_8 l0_9 a0_10).bind fun b => if b = true then (spec_PacketOk.f a0_0 a0_1 p0 p1 p2 p3 p4).bind fun c => if c = true then (if (0 ≤ p1 ∧ p1 < (l0_8.length : Int)) ∧ ¬ wrap64 (((rd_L4 l0_8 p1).length : Int) + p4) > 60 then (spec_l16Send.f k a0_0 a0_1 l0_2 l0_3 l0_4 l0_5 l0_6 l0_7 l0_8 l0_9 a0_10 p0 p1 p2 p3 p4).bind fun m => some (m.1, m.2.1, m.2.2.1, m.2.2.2.1, m.2.2.2.2.1, m.2.2.2.2.2.1, m.2.2.2.2.2.2.1, m.2.2.2.2.2.2.2.1, m.2.2.2.2.2.2.2.2.1, m.2.2.2.2.2.2.2.2.2.1, m.2.2.2.2.2.2.2.2.2.2, true) else none) else none else none
set_option maxHeartbeats 4000000 in
theorem spec_SendPacket.callsS (k : Nat) (a0_0 : Int) (a0_1 : Int) (A0_2 : Option Addr) (c0_2 : Nat) (l0_2 : List Int) (A0_3 : Option Addr) (c0_3 : Nat) (l0_3 : List Int) (A0_4 : Option Addr) (c0_4 : Nat) (l0_4 : List Int) (A0_5 : Option Addr) (c0_5 : Nat) (l0_5 : List (List S72)) (A0_6 : Option Addr) (c0_6 : Nat) (l0_6 : List Int) (A0_7 : Option Addr) (c0_7 : Nat) (l0_7 : List Int) (A0_8 : Option Addr) (c0_8 : Nat) (l0_8 : List (List S72)) (A0_9 : Option Addr) (c0_9 : Nat) (l0_9 : List (List S72)) (a0_10 : Int) (p0 p1 p2 p3 p4 : Int) (r1 : Int) (r2 : Int) (r3 : List Int) (r4 : List Int) (r5 : List Int) (r6 : List (List S72)) (r7 : List Int) (r8 : List Int) (r9 : List (List S72)) (r10 : List (List S72)) (r11 : Int) (r12 : Bool) (w : World) (hr0_2 : Kd.C (Kd.int .i64) w A0_2 l0_2.length l0_2) (hc0_2 : l0_2.length ≤ c0_2) (hr0_3 : Kd.C (Kd.int .i64) w A0_3 l0_3.length l0_3) (hc0_3 : l0_3.length ≤ c0_3) (hr0_4 : Kd.C (Kd.int .i64) w A0_4 l0_4.length l0_4) (hc0_4 : l0_4.length ≤ c0_4) (hr0_5 : Kd.C (Kd.slice 72 k72) w A0_5 l0_5.length l0_5) (hc0_5 : l0_5.length ≤ c0_5) (hr0_6 : Kd.C (Kd.int .i64) w A0_6 l0_6.length l0_6) (hc0_6 : l0_6.length ≤ c0_6) (hr0_7 : Kd.C (Kd.int .i64) w A0_7 l0_7.length l0_7) (hc0_7 : l0_7.length ≤ c0_7) (hr0_8 : Kd.C (Kd.slice 72 k72) w A0_8 l0_8.length l0_8) (hc0_8 : l0_8.length ≤ c0_8) (hr0_9 : Kd.C (Kd.slice 72 k72) w A0_9 l0_9.length l0_9) (hc0_9 : l0_9.length ≤ c0_9) (h : spec_SendPacket.f k a0_0 a0_1 l0_2 l0_3 l0_4 l0_5 l0_6 l0_7 l0_8 l0_9 a0_10 p0 p1 p2 p3 p4 = some (r1, r2, r3, r4, r5, r6, r7, r8, r9, r10, r11, r12)) :
  Calls Try.prog 63 #[.agg #[.int .i64 a0_0, .int .i64 a0_1, .slice A0_2 l0_2.length c0_2, .slice A0_3 l0_3.length c0_3, .slice A0_4 l0_4.length c0_4, .slice A0_5 l0_5.length c0_5, .slice A0_6 l0_6.length c0_6, .slice A0_7 l0_7.length c0_7, .slice A0_8 l0_8.length c0_8, .slice A0_9 l0_9.length c0_9, .int .i64 a0_10], .agg #[.int .i64 p0, .int .i64 p1, .int .i64 p2, .int .i64 p3, .int .i64 p4]] w fun e w' => ∃ v2_ v3_ v4_ v5_ v6_ v7_ v8_ v9_ : Value, e = .returned (.tuple #[.agg #[.int .i64 r1, .int .i64 r2, v2_, v3_, v4_, v5_, v6_, v7_, v8_, v9_, .int .i64 r11], .bool r12]) ∧ Std8 w.heap.size w' v2_ v3_ v4_ v5_ v6_ v7_ v8_ v9_ r3 r4 r5 r6 r7 r8 r9 r10 ∧ Below w.heap.size w w' := by
 have HR2 := am hr0_2; have HC2 := am hc0_2
 have HR3 := am hr0_3; have HC3 := am hc0_3
 have HR4 := am hr0_4; have HC4 := am hc0_4
 have HR5 := am hr0_5; have HC5 := am hc0_5
 have HR6 := am hr0_6; have HC6 := am hc0_6
 have HR7 := am hr0_7; have HC7 := am hc0_7
 have HR8 := am hr0_8; have HC8 := am hc0_8
 have HR9 := am hr0_9; have HC9 := am hc0_9
 have HB := am (Below.refl w.heap.size w); unfold spec_SendPacket.f at h; clear hr0_2 hc0_2 hr0_3 hc0_3 hr0_4 hc0_4 hr0_5 hc0_5 hr0_6 hc0_6 hr0_7 hc0_7 hr0_8 hc0_8 hr0_9 hc0_9
 obtain ⟨b, e1, h⟩ := Option.bind_eq_some_iff.1 h; by_cases cb : b = true
 rotate_left
 ·rw [if_neg cb] at h; cases h
 subst cb; rw [if_pos rfl] at h; obtain ⟨c, e2, h⟩ := Option.bind_eq_some_iff.1 h; by_cases cc : c = true
 rotate_left
 ·rw [if_neg cc] at h; cases h
 subst cc; rw [if_pos rfl] at h; by_cases cg : (0 ≤ p1 ∧ p1 < (l0_8.length : Int)) ∧ ¬ wrap64 (((rd_L4 l0_8 p1).length : Int) + p4) > 60
 rotate_left
 ·rw [if_neg cg] at h; cases h
 rw [if_pos cg] at h; obtain ⟨⟨m1, m2, m3, m4, m5, m6, m7, m8, m9, m10, m11⟩, e3, h⟩ := Option.bind_eq_some_iff.1 h; dsimp only at h; simp only [Option.some.injEq, Prod.mk.injEq] at h; obtain ⟨rfl, rfl, rfl, rfl, rfl, rfl, rfl, rfl, rfl, rfl, rfl, rfl⟩ := h
 have E1 := am e1; have E2 := am e2; have E3 := am e3; have CG := am cg; clear e1 e2 e3 cg
 obtain ⟨ad, Ai, ci, ea, xi, -, -⟩ := at_L4 HR8.out p1 CG.out.1.1 CG.out.1.2
 have XX : Aside0 (∀ W, Below w.heap.size w W → W.cell? (ad.add p1.toNat) = some (.slice Ai (rd_L4 l0_8 p1).length ci)) := ⟨fun W hW => (hW.cell (World.block_lt_of_cell? w _ xi)).trans xi⟩; clear xi; subst ea
 have hu35 := Try.underlying35; have hu89 := Try.underlying89; have hu28 := Try.underlying28; go_enter Try.func63, Try.ntmps63
 go_upto_region 1 with (first | ((with_reducible refine gate_dst (N := 2) rfl ?_); refine bx_ 2 #[.int .i64 a0_0, .int .i64 a0_1, .slice A0_2 l0_2.length c0_2, .slice A0_3 l0_3.length c0_3, .slice A0_4 l0_4.length c0_4, .slice A0_5 l0_5.length c0_5, .slice A0_6 l0_6.length c0_6, .slice A0_7 l0_7.length c0_7, .slice (some ad) l0_8.length c0_8, .slice A0_9 l0_9.length c0_9, .int .i64 a0_10] 35 ?_; intro g2 hg w1 hbox hb; have B2 := am hbox; replace HB := h9_ HB hb; clear hb hbox hg) | ((with_reducible refine gate_dst (N := 3) rfl ?_); refine bx_ 3 #[.int .i64 p0, .int .i64 p1, .int .i64 p2, .int .i64 p3, .int .i64 p4] 89 ?_; intro g3 hg w1 hbox hb; have B3 := am hbox; replace B2 := kb_ B2 hb; replace HB := h9_ HB hb; clear hb hbox hg) | ((with_reducible refine gate_dst (N := 4) rfl ?_); refine bx_ 4 #[.int .i64 0, .int .i64 0, .slice none 0 0, .slice none 0 0, .slice none 0 0, .slice none 0 0, .slice none 0 0, .slice none 0 0, .slice none 0 0, .slice none 0 0, .int .i64 0] 35 ?_; intro g4 hg w1 hbox hb; have B4 := am hbox; have G4 := am (show w.heap.size ≤ g4 by rw [hg]; exact (bz_ HB.out)); replace B2 := kb_ B2 hb; replace B3 := kb_ B3 hb; replace HB := h9_ HB hb; clear hb hbox hg))
 have c1 := eq_true CG.out.1.1; have c2 := eq_true CG.out.1.2
 go_region_held3 (fun w' => w'.cell? ⟨g2, 0, none⟩ = some (.int .i64 a0_0) ∧ w'.cell? ⟨g2, 1, none⟩ = some (.int .i64 a0_1) ∧ w'.cell? ⟨g2, 2, none⟩ = some (.slice A0_2 l0_2.length c0_2) ∧ w'.cell? ⟨g2, 3, none⟩ = some (.slice A0_3 l0_3.length c0_3) ∧ w'.cell? ⟨g2, 4, none⟩ = some (.slice A0_4 l0_4.length c0_4) ∧ w'.cell? ⟨g2, 5, none⟩ = some (.slice A0_5 l0_5.length c0_5) ∧ w'.cell? ⟨g2, 6, none⟩ = some (.slice A0_6 l0_6.length c0_6) ∧ w'.cell? ⟨g2, 7, none⟩ = some (.slice A0_7 l0_7.length c0_7) ∧ w'.cell? ⟨g2, 8, none⟩ = some (.slice (some ad) l0_8.length c0_8) ∧ w'.cell? ⟨g2, 9, none⟩ = some (.slice A0_9 l0_9.length c0_9) ∧ w'.cell? ⟨g2, 10, none⟩ = some (.int .i64 a0_10) ∧ w'.cell? ⟨g3, 0, none⟩ = some (.int .i64 p0) ∧ w'.cell? ⟨g3, 1, none⟩ = some (.int .i64 p1) ∧ w'.cell? ⟨g3, 2, none⟩ = some (.int .i64 p2) ∧ w'.cell? ⟨g3, 3, none⟩ = some (.int .i64 p3) ∧ w'.cell? ⟨g3, 4, none⟩ = some (.int .i64 p4) ∧ w'.cell? (ad.add p1.toNat) = some (.slice Ai (rd_L4 l0_8 p1).length ci))
  (exact ⟨(blk_cell (bq_ B2.out) 0).trans rfl, (blk_cell (bq_ B2.out) 1).trans rfl, (blk_cell (bq_ B2.out) 2).trans rfl, (blk_cell (bq_ B2.out) 3).trans rfl, (blk_cell (bq_ B2.out) 4).trans rfl, (blk_cell (bq_ B2.out) 5).trans rfl, (blk_cell (bq_ B2.out) 6).trans rfl, (blk_cell (bq_ B2.out) 7).trans rfl, (blk_cell (bq_ B2.out) 8).trans rfl, (blk_cell (bq_ B2.out) 9).trans rfl, (blk_cell (bq_ B2.out) 10).trans rfl, (blk_cell (bq_ B3.out) 0).trans rfl, (blk_cell (bq_ B3.out) 1).trans rfl, (blk_cell (bq_ B3.out) 2).trans rfl, (blk_cell (bq_ B3.out) 3).trans rfl, (blk_cell (bq_ B3.out) 4).trans rfl, XX.out _ (bb_ HB.out)⟩)
  (first | (go_at_call 38; (with_reducible refine (spec_NetOk.calls k a0_0 a0_1 _ _ l0_2 _ _ l0_3 _ _ l0_4 _ _ l0_5 _ _ l0_6 _ _ l0_7 _ _ l0_8 _ _ l0_9 a0_10 true _ ?s2 HC2.out ?s3 HC3.out ?s4 HC4.out ?s5 HC5.out ?s6 HC6.out ?s7 HC7.out ?s8 HC8.out ?s9 HC9.out E1.out).mono ?_); (case s2 => exact cb_ HR2.out HB.out); (case s3 => exact cb_ HR3.out HB.out); (case s4 => exact cb_ HR4.out HB.out); (case s5 => exact cb_ HR5.out HB.out); (case s6 => exact cb_ HR6.out HB.out); (case s7 => exact cb_ HR7.out HB.out); (case s8 => exact cb_ HR8.out HB.out); (case s9 => exact cb_ HR9.out HB.out); rintro e w4 ⟨rfl, hb⟩; replace B2 := kb_ B2 hb; replace B3 := kb_ B3 hb; replace B4 := kb_ B4 hb; replace HB := h9_ HB hb; (try clear hb)) | (go_at_call 85; (with_reducible refine (spec_PacketOk.calls a0_0 a0_1 p0 p1 p2 p3 p4 true _ E2.out).mono ?_); rintro e w5 ⟨rfl, hb⟩; replace B2 := kb_ B2 hb; replace B3 := kb_ B3 hb; replace B4 := kb_ B4 hb; replace HB := h9_ HB hb; (try clear hb)))
 clear c1 c2; have c3 : decide (60 < IntKind.i64.wrap (((rd_L4 l0_8 p1).length : Int) + p4)) = false := decide_eq_false (by rw [i64_w]; have := CG.out.2; omega); rw [c3]; clear c3
 skip; obtain ⟨z0, z1, z2, z3, z4, z5, z6, z7, z8, z9, z10, zf0, zf1, zf2, zf3, zf4, zf5, zf6, zf7, zf8, zf9, zf10⟩ := cz11_ B2.out; obtain ⟨y0, y1, y2, y3, y4, yf0, yf1, yf2, yf3, yf4⟩ := cz5_ B3.out
 go_wp2_with (first | (go_at_call 86; (with_reducible refine (spec_l16Send.calls k a0_0 a0_1 _ _ l0_2 _ _ l0_3 _ _ l0_4 _ _ l0_5 _ _ l0_6 _ _ l0_7 _ _ l0_8 _ _ l0_9 a0_10 p0 p1 p2 p3 p4 m1 m2 m3 m4 m5 m6 m7 m8 m9 m10 m11 _ ?s2 HC2.out ?s3 HC3.out ?s4 HC4.out ?s5 HC5.out ?s6 HC6.out ?s7 HC7.out ?s8 HC8.out ?s9 HC9.out E3.out).mono ?_); (case s2 => exact cb_ HR2.out HB.out); (case s3 => exact cb_ HR3.out HB.out); (case s4 => exact cb_ HR4.out HB.out); (case s5 => exact cb_ HR5.out HB.out); (case s6 => exact cb_ HR6.out HB.out); (case s7 => exact cb_ HR7.out HB.out); (case s8 => exact cb_ HR8.out HB.out); (case s9 => exact cb_ HR9.out HB.out); rintro e w6 ⟨u2_, u3_, u4_, u5_, u6_, u7_, u8_, u9_, rfl, s2_, s3_, s4_, s5_, s6_, s7_, s8_, s9_, hb⟩; have hs_ := bz_ HB.out; have HN := am (Std8.lower ⟨s2_, s3_, s4_, s5_, s6_, s7_, s8_, s9_⟩ hs_); replace B4 := kb_ B4 hb; replace HB := h9_ HB hb; clear hb hs_ s2_ s3_ s4_ s5_ s6_ s7_ s8_ s9_; obtain ⟨X2_, d2_, e_⟩ := Kd.R_slice HN.out.h2; subst e_; obtain ⟨X3_, d3_, e_⟩ := Kd.R_slice HN.out.h3; subst e_; obtain ⟨X4_, d4_, e_⟩ := Kd.R_slice HN.out.h4; subst e_; obtain ⟨X5_, d5_, e_⟩ := Kd.S_slice HN.out.h5; subst e_; obtain ⟨X6_, d6_, e_⟩ := Kd.R_slice HN.out.h6; subst e_; obtain ⟨X7_, d7_, e_⟩ := Kd.R_slice HN.out.h7; subst e_; obtain ⟨X8_, d8_, e_⟩ := Kd.S_slice HN.out.h8; subst e_; obtain ⟨X9_, d9_, e_⟩ := Kd.S_slice HN.out.h9; subst e_; clear z0 z1 z2 z3 z4 z5 z6 z7 z8 z9 z10 zf0 zf1 zf2 zf3 zf4 zf5 zf6 zf7 zf8 zf9 zf10; obtain ⟨z0, z1, z2, z3, z4, z5, z6, z7, z8, z9, z10, zf0, zf1, zf2, zf3, zf4, zf5, zf6, zf7, zf8, zf9, zf10⟩ := cz11_ B4.out))
 clear z0 z1 z2 z3 z4 z5 z6 z7 z8 z9 z10 zf0 zf1 zf2 zf3 zf4 zf5 zf6 zf7 zf8 zf9 zf10
 change bodyPost _ _ _ _ _ (st11_ _ g4 (.int .i64 m1) (.int .i64 m2) ((.slice X2_ m3.length d2_)) ((.slice X3_ m4.length d3_)) ((.slice X4_ m5.length d4_)) ((.slice X5_ m6.length d5_)) ((.slice X6_ m7.length d6_)) ((.slice X7_ m8.length d7_)) ((.slice X8_ m9.length d8_)) ((.slice X9_ m10.length d9_)) (.int .i64 (m11)))
 replace HN := am (HN.out.far (w1 := st11_ _ g4 (.int .i64 m1) (.int .i64 m2) ((.slice X2_ m3.length d2_)) ((.slice X3_ m4.length d3_)) ((.slice X4_ m5.length d4_)) ((.slice X5_ m6.length d5_)) ((.slice X6_ m7.length d6_)) ((.slice X7_ m8.length d7_)) ((.slice X8_ m9.length d8_)) ((.slice X9_ m10.length d9_)) (.int .i64 (m11))) (bq_ B4.out) (fun _ h_ => st11_far h_)); replace B4 := am (st11_blk B4.out : (st11_ _ g4 (.int .i64 m1) (.int .i64 m2) ((.slice X2_ m3.length d2_)) ((.slice X3_ m4.length d3_)) ((.slice X4_ m5.length d4_)) ((.slice X5_ m6.length d5_)) ((.slice X6_ m7.length d6_)) ((.slice X7_ m8.length d7_)) ((.slice X8_ m9.length d8_)) ((.slice X9_ m10.length d9_)) (.int .i64 (m11))).heap[g4]? = _); replace HB := am (st11_below HB.out G4.out : Below w.heap.size w (st11_ _ g4 (.int .i64 m1) (.int .i64 m2) ((.slice X2_ m3.length d2_)) ((.slice X3_ m4.length d3_)) ((.slice X4_ m5.length d4_)) ((.slice X5_ m6.length d5_)) ((.slice X6_ m7.length d6_)) ((.slice X7_ m8.length d7_)) ((.slice X8_ m9.length d8_)) ((.slice X9_ m10.length d9_)) (.int .i64 (m11)))); generalize st11_ _ g4 (.int .i64 m1) (.int .i64 m2) ((.slice X2_ m3.length d2_)) ((.slice X3_ m4.length d3_)) ((.slice X4_ m5.length d4_)) ((.slice X5_ m6.length d5_)) ((.slice X6_ m7.length d6_)) ((.slice X7_ m8.length d7_)) ((.slice X8_ m9.length d8_)) ((.slice X9_ m10.length d9_)) (.int .i64 (m11)) = wz at *
 refine bodyPost_ret (results_ct rfl _ _ g4 35 _ (0, 0) _ rfl (bq_ B4.out) Try.underlying35 rfl (by kernel_rfl)) rfl ?_; exact ⟨_, _, _, _, _, _, _, _, rfl, HN.out, bb_ HB.out⟩
def spec_l16Bit.f (a0 : Bool) : Option (Int) := if a0 = true then (some 1) else (some 0)
theorem spec_l16Bit.e0 {P : Prop} (h : P := by
 go_enter Try.func64, Try.ntmps64
 go_wp2
 go_ret
 exact ⟨by first | rfl | (simp; done) | (simp [*]; done), by repeat (first | exact Drawn0.refl _ | apply Drawn0.step)⟩) : P := h
theorem spec_l16Bit.calls (a0 : Bool) (r : Int) (w : World) (h : spec_l16Bit.f a0 = some r) :
  Calls Try.prog 64 #[.bool a0] w fun e w' => e = .returned (.int .i64 r) ∧ Drawn0 w w' := by
 have H : (if a0 = true then (some 1) else (some 0)) = some r := h
 clear h
 by_cases c2 : a0 = true
 ·subst c2
  rw [if_pos rfl] at H
  obtain rfl := Option.some.inj H
  exact spec_l16Bit.e0
 ·replace c2 := Bool.eq_false_iff.mpr c2
  subst c2
  rw [if_neg (show ¬ (false = true) by decide)] at H
  obtain rfl := Option.some.inj H
  exact spec_l16Bit.e0
def spec_SendAll.l0 : Nat → Int × Int × List Int × List Int × List Int × (List (List S72)) × List Int × List Int × (List (List S72)) × (List (List S72)) × Int → List S89 → Int → Int → Option (Int × Int × List Int × List Int × List Int × (List (List S72)) × List Int × List Int × (List (List S72)) × (List (List S72)) × Int × Int)
 | 0, _, _, _, _ => none
 | k + 1, n, q, i, c => if i < (q.length : Int) then (if 0 ≤ i then ((spec_SendPacket.f k n.1 n.2.1 n.2.2.1 n.2.2.2.1 n.2.2.2.2.1 n.2.2.2.2.2.1 n.2.2.2.2.2.2.1 n.2.2.2.2.2.2.2.1 n.2.2.2.2.2.2.2.2.1 n.2.2.2.2.2.2.2.2.2.1 n.2.2.2.2.2.2.2.2.2.2 (rd_T89 q i).f0 (rd_T89 q i).f1 (rd_T89 q i).f2 (rd_T89 q i).f3 (rd_T89 q i).f4).bind fun t => (spec_l16Bit.f t.2.2.2.2.2.2.2.2.2.2.2).bind fun z => spec_SendAll.l0 k (t.1, t.2.1, t.2.2.1, t.2.2.2.1, t.2.2.2.2.1, t.2.2.2.2.2.1, t.2.2.2.2.2.2.1, t.2.2.2.2.2.2.2.1, t.2.2.2.2.2.2.2.2.1, t.2.2.2.2.2.2.2.2.2.1, t.2.2.2.2.2.2.2.2.2.2.1) q (wrap64 (i + 1)) (wrap64 (c + z))) else none) else some (n.1, n.2.1, n.2.2.1, n.2.2.2.1, n.2.2.2.2.1, n.2.2.2.2.2.1, n.2.2.2.2.2.2.1, n.2.2.2.2.2.2.2.1, n.2.2.2.2.2.2.2.2.1, n.2.2.2.2.2.2.2.2.2.1, n.2.2.2.2.2.2.2.2.2.2, c)
def spec_SendAll.f (k : Nat) (a0_0 : Int) (a0_1 : Int) (l0_2 : List Int) (l0_3 : List Int) (l0_4 : List Int) (l0_5 : List (List S72)) (l0_6 : List Int) (l0_7 : List Int) (l0_8 : List (List S72)) (l0_9 : List (List S72)) (a0_10 : Int) (l1 : List S89) : Option (Int × Int × List Int × List Int × List Int × (List (List S72)) × List Int × List Int × (List (List S72)) × (List (List S72)) × Int × Int) := (spec_l15Copy.f k a0_0 a0_1 l0_2 l0_3 l0_4 l0_5 l0_6 l0_7 l0_8 l0_9 a0_10).bind fun n => (spec_NetOk.f k a0_0 a0_1 l0_2 l0_3 l0_4 l0_5 l0_6 l0_7 l0_8 l0_9 a0_10).bind fun b => if b = true then (if (l1.length : Int) > 40 then none else spec_SendAll.l0 k n l1 0 0) else none
set_option maxHeartbeats 4000000 in
theorem spec_SendAll.callsS (k : Nat) (a0_0 : Int) (a0_1 : Int) (A0_2 : Option Addr) (c0_2 : Nat) (l0_2 : List Int) (A0_3 : Option Addr) (c0_3 : Nat) (l0_3 : List Int) (A0_4 : Option Addr) (c0_4 : Nat) (l0_4 : List Int) (A0_5 : Option Addr) (c0_5 : Nat) (l0_5 : List (List S72)) (A0_6 : Option Addr) (c0_6 : Nat) (l0_6 : List Int) (A0_7 : Option Addr) (c0_7 : Nat) (l0_7 : List Int) (A0_8 : Option Addr) (c0_8 : Nat) (l0_8 : List (List S72)) (A0_9 : Option Addr) (c0_9 : Nat) (l0_9 : List (List S72)) (a0_10 : Int) (A1 : Option Addr) (c1 : Nat) (l1 : List S89) (r1 : Int) (r2 : Int) (r3 : List Int) (r4 : List Int) (r5 : List Int) (r6 : List (List S72)) (r7 : List Int) (r8 : List Int) (r9 : List (List S72)) (r10 : List (List S72)) (r11 : Int) (r12 : Int) (w : World) (hr0_2 : Kd.C (Kd.int .i64) w A0_2 l0_2.length l0_2) (hc0_2 : l0_2.length ≤ c0_2) (hr0_3 : Kd.C (Kd.int .i64) w A0_3 l0_3.length l0_3) (hc0_3 : l0_3.length ≤ c0_3) (hr0_4 : Kd.C (Kd.int .i64) w A0_4 l0_4.length l0_4) (hc0_4 : l0_4.length ≤ c0_4) (hr0_5 : Kd.C (Kd.slice 72 k72) w A0_5 l0_5.length l0_5) (hc0_5 : l0_5.length ≤ c0_5) (hr0_6 : Kd.C (Kd.int .i64) w A0_6 l0_6.length l0_6) (hc0_6 : l0_6.length ≤ c0_6) (hr0_7 : Kd.C (Kd.int .i64) w A0_7 l0_7.length l0_7) (hc0_7 : l0_7.length ≤ c0_7) (hr0_8 : Kd.C (Kd.slice 72 k72) w A0_8 l0_8.length l0_8) (hc0_8 : l0_8.length ≤ c0_8) (hr0_9 : Kd.C (Kd.slice 72 k72) w A0_9 l0_9.length l0_9) (hc0_9 : l0_9.length ≤ c0_9) (hr1 : Kd.C k89 w A1 l1.length l1) (hc1 : l1.length ≤ c1) (h : spec_SendAll.f k a0_0 a0_1 l0_2 l0_3 l0_4 l0_5 l0_6 l0_7 l0_8 l0_9 a0_10 l1 = some (r1, r2, r3, r4, r5, r6, r7, r8, r9, r10, r11, r12)) :
  Calls Try.prog 33 #[.agg #[.int .i64 a0_0, .int .i64 a0_1, .slice A0_2 l0_2.length c0_2, .slice A0_3 l0_3.length c0_3, .slice A0_4 l0_4.length c0_4, .slice A0_5 l0_5.length c0_5, .slice A0_6 l0_6.length c0_6, .slice A0_7 l0_7.length c0_7, .slice A0_8 l0_8.length c0_8, .slice A0_9 l0_9.length c0_9, .int .i64 a0_10], .slice A1 l1.length c1] w fun e w' => ∃ v2_ v3_ v4_ v5_ v6_ v7_ v8_ v9_ : Value, e = .returned (.tuple #[.agg #[.int .i64 r1, .int .i64 r2, v2_, v3_, v4_, v5_, v6_, v7_, v8_, v9_, .int .i64 r11], .int .i64 r12]) ∧ Std8 w.heap.size w' v2_ v3_ v4_ v5_ v6_ v7_ v8_ v9_ r3 r4 r5 r6 r7 r8 r9 r10 ∧ Below w.heap.size w w' := by
 have HR2 := am hr0_2; have HC2 := am hc0_2
 have HR3 := am hr0_3; have HC3 := am hc0_3
 have HR4 := am hr0_4; have HC4 := am hc0_4
 have HR5 := am hr0_5; have HC5 := am hc0_5
 have HR6 := am hr0_6; have HC6 := am hc0_6
 have HR7 := am hr0_7; have HC7 := am hc0_7
 have HR8 := am hr0_8; have HC8 := am hc0_8
 have HR9 := am hr0_9; have HC9 := am hc0_9
 have HL := am hr1; have HLC := am hc1; have HB := am (Below.refl w.heap.size w); unfold spec_SendAll.f at h; clear hr1 hc1 hr0_2 hc0_2 hr0_3 hc0_3 hr0_4 hc0_4 hr0_5 hc0_5 hr0_6 hc0_6 hr0_7 hc0_7 hr0_8 hc0_8 hr0_9 hc0_9
 obtain ⟨⟨n1, n2, n3, n4, n5, n6, n7, n8, n9, n10, n11⟩, e1, g_⟩ := Option.bind_eq_some_iff.1 h; clear h; obtain ⟨b, e2, h⟩ := Option.bind_eq_some_iff.1 g_; clear g_; (try dsimp only at h); have E1 := am e1; have E2 := am e2; have H0 := am h; clear e1 e2 h
 have hu35 := Try.underlying35; have hu89 := Try.underlying89; go_enter Try.func33, Try.ntmps33
 go_upto_region 1 with (first | ((with_reducible refine gate_dst (N := 2) rfl ?_); refine bx_ 2 #[.int .i64 a0_0, .int .i64 a0_1, .slice A0_2 l0_2.length c0_2, .slice A0_3 l0_3.length c0_3, .slice A0_4 l0_4.length c0_4, .slice A0_5 l0_5.length c0_5, .slice A0_6 l0_6.length c0_6, .slice A0_7 l0_7.length c0_7, .slice A0_8 l0_8.length c0_8, .slice A0_9 l0_9.length c0_9, .int .i64 a0_10] 35 ?_; intro g2 hg w1 hbox hb; have B2 := am hbox; replace HB := h9_ HB hb; clear hb hbox hg) | ((with_reducible refine gate_dst (N := 4) rfl ?_); refine bx_ 4 #[.int .i64 0, .int .i64 0, .slice none 0 0, .slice none 0 0, .slice none 0 0, .slice none 0 0, .slice none 0 0, .slice none 0 0, .slice none 0 0, .slice none 0 0, .int .i64 0] 35 ?_; intro g4 hg w1 hbox hb; have B4 := am hbox; have G4 := am (show w.heap.size ≤ g4 by rw [hg]; exact (bz_ HB.out)); replace B2 := kb_ B2 hb; replace HB := h9_ HB hb; clear hb hbox hg))
 obtain ⟨y0, y1, y2, y3, y4, y5, y6, y7, y8, y9, y10, -⟩ := cz11_ B2.out
 go_upto_region 2 with (first | (go_at_call 62; (with_reducible refine (spec_l15Copy.calls k a0_0 a0_1 _ _ l0_2 _ _ l0_3 _ _ l0_4 _ _ l0_5 _ _ l0_6 _ _ l0_7 _ _ l0_8 _ _ l0_9 a0_10 n1 n2 n3 n4 n5 n6 n7 n8 n9 n10 n11 _ ?s2 HC2.out ?s3 HC3.out ?s4 HC4.out ?s5 HC5.out ?s6 HC6.out ?s7 HC7.out ?s8 HC8.out ?s9 HC9.out E1.out).mono ?_); (case s2 => exact cb_ HR2.out HB.out); (case s3 => exact cb_ HR3.out HB.out); (case s4 => exact cb_ HR4.out HB.out); (case s5 => exact cb_ HR5.out HB.out); (case s6 => exact cb_ HR6.out HB.out); (case s7 => exact cb_ HR7.out HB.out); (case s8 => exact cb_ HR8.out HB.out); (case s9 => exact cb_ HR9.out HB.out); rintro e w2 ⟨u2_, u3_, u4_, u5_, u6_, u7_, u8_, u9_, rfl, s2_, s3_, s4_, s5_, s6_, s7_, s8_, s9_, hb⟩; have hs_ := bz_ HB.out; have HN := am (Std8.lower ⟨s2_, s3_, s4_, s5_, s6_, s7_, s8_, s9_⟩ hs_); replace B2 := kb_ B2 hb; replace B4 := kb_ B4 hb; replace HB := h9_ HB hb; clear hb hs_ s2_ s3_ s4_ s5_ s6_ s7_ s8_ s9_ y0 y1 y2 y3 y4 y5 y6 y7 y8 y9 y10; obtain ⟨X2_, d2_, e_⟩ := Kd.R_slice HN.out.h2; subst e_; obtain ⟨X3_, d3_, e_⟩ := Kd.R_slice HN.out.h3; subst e_; obtain ⟨X4_, d4_, e_⟩ := Kd.R_slice HN.out.h4; subst e_; obtain ⟨X5_, d5_, e_⟩ := Kd.S_slice HN.out.h5; subst e_; obtain ⟨X6_, d6_, e_⟩ := Kd.R_slice HN.out.h6; subst e_; obtain ⟨X7_, d7_, e_⟩ := Kd.R_slice HN.out.h7; subst e_; obtain ⟨X8_, d8_, e_⟩ := Kd.S_slice HN.out.h8; subst e_; obtain ⟨X9_, d9_, e_⟩ := Kd.S_slice HN.out.h9; subst e_))
 clear E1
 have N46 := am (show g4 ≠ w2.heap.size from Nat.ne_of_lt (blk_lt (bq_ B4.out)))
 have hb_ := below_alloc (Below.refl w2.heap.size w2) (Obj.cells #[.int .i64 n1, .int .i64 n2, (.slice X2_ n3.length d2_), (.slice X3_ n4.length d3_), (.slice X4_ n5.length d4_), (.slice X5_ n6.length d5_), (.slice X6_ n7.length d6_), (.slice X7_ n8.length d7_), (.slice X8_ n9.length d8_), (.slice X9_ n10.length d9_), .int .i64 n11] 35 (0, 0)); have B6 := am (blk_new w2 (Obj.cells #[.int .i64 n1, .int .i64 n2, (.slice X2_ n3.length d2_), (.slice X3_ n4.length d3_), (.slice X4_ n5.length d4_), (.slice X5_ n6.length d5_), (.slice X6_ n7.length d6_), (.slice X7_ n8.length d7_), (.slice X8_ n9.length d8_), (.slice X9_ n10.length d9_), .int .i64 n11] 35 (0, 0))); have G6 := am (show w.heap.size ≤ w2.heap.size from bz_ HB.out)
 replace B2 := kb_ B2 hb_
 replace B4 := kb_ B4 hb_
 replace HN := am (HN.out.below hb_); replace HB := h9_ HB hb_; obtain ⟨g6, hg_⟩ : ∃ g_, g_ = w2.heap.size := ⟨_, rfl⟩; rw [← hg_] at B6 G6 N46 ⊢; clear hb_ hg_; generalize w2.alloc (Obj.cells #[.int .i64 n1, .int .i64 n2, (.slice X2_ n3.length d2_), (.slice X3_ n4.length d3_), (.slice X4_ n5.length d4_), (.slice X5_ n6.length d5_), (.slice X6_ n7.length d6_), (.slice X7_ n8.length d7_), (.slice X8_ n9.length d8_), (.slice X9_ n10.length d9_), .int .i64 n11] 35 (0, 0)) = w3 at *
 obtain ⟨y0, y1, y2, y3, y4, y5, y6, y7, y8, y9, y10, -⟩ := cz11_ B2.out
 by_cases cb : b = true
 rotate_left
 ·have h := H0.out; rw [if_neg cb] at h; cases h
 subst cb; have h := H0.out; clear H0; rw [if_pos rfl] at h; by_cases c4 : (l1.length : Int) > 40
 ·rw [if_pos c4] at h; cases h
 rw [if_neg c4] at h; have c4d : decide ((l1.length : Int) > 40) = false := decide_eq_false c4; have H0 := am h; clear h c4
 go_upto_if 20 with (go_at_call 38; (with_reducible refine (spec_NetOk.calls k a0_0 a0_1 _ _ l0_2 _ _ l0_3 _ _ l0_4 _ _ l0_5 _ _ l0_6 _ _ l0_7 _ _ l0_8 _ _ l0_9 a0_10 true _ ?s2 HC2.out ?s3 HC3.out ?s4 HC4.out ?s5 HC5.out ?s6 HC6.out ?s7 HC7.out ?s8 HC8.out ?s9 HC9.out E2.out).mono ?_); (case s2 => exact cb_ HR2.out HB.out); (case s3 => exact cb_ HR3.out HB.out); (case s4 => exact cb_ HR4.out HB.out); (case s5 => exact cb_ HR5.out HB.out); (case s6 => exact cb_ HR6.out HB.out); (case s7 => exact cb_ HR7.out HB.out); (case s8 => exact cb_ HR8.out HB.out); (case s9 => exact cb_ HR9.out HB.out); rintro e w4 ⟨rfl, hb⟩; replace HN := am (HN.out.below hb); replace B4 := kb_ B4 hb; replace B6 := kb_ B6 hb; replace HB := h9_ HB hb; clear hb B2 y0 y1 y2 y3 y4 y5 y6 y7 y8 y9 y10)
 clear E2 c4d
 go_wp2
 go_loopg [7, 8] k (fun kq v7 v8 w' => ∃ (c i : Int) (m1 : Int) (m2 : Int) (m3 : List Int) (m4 : List Int) (m5 : List Int) (m6 : List (List S72)) (m7 : List Int) (m8 : List Int) (m9 : List (List S72)) (m10 : List (List S72)) (m11 : Int) (u2_ u3_ u4_ u5_ u6_ u7_ u8_ u9_ : Value), v7 = .int .i64 c ∧ v8 = .int .i64 i ∧ Aside0 (spec_SendAll.l0 kq (m1, m2, m3, m4, m5, m6, m7, m8, m9, m10, m11) l1 i c = some (r1, r2, r3, r4, r5, r6, r7, r8, r9, r10, r11, r12)) ∧ Aside0 (kq ≤ k) ∧ Aside0 (Std8 w.heap.size w' u2_ u3_ u4_ u5_ u6_ u7_ u8_ u9_ m3 m4 m5 m6 m7 m8 m9 m10) ∧ Aside0 (w'.heap[g6]? = some (.cells #[.int .i64 m1, .int .i64 m2, u2_, u3_, u4_, u5_, u6_, u7_, u8_, u9_, .int .i64 m11] 35 (0, 0))) ∧ Aside0 (w'.heap[g4]? = some (.cells #[.int .i64 0, .int .i64 0, .slice none 0 0, .slice none 0 0, .slice none 0 0, .slice none 0 0, .slice none 0 0, .slice none 0 0, .slice none 0 0, .slice none 0 0, .int .i64 0] 35 (0, 0))) ∧ Aside0 (Below w.heap.size w w'))
 case atStart => exact ⟨0, 0, n1, n2, n3, n4, n5, n6, n7, n8, n9, n10, n11, _, _, _, _, _, _, _, _, rfl, rfl, H0, ⟨Nat.le_refl _⟩, ⟨HN.out⟩, ⟨bq_ B6.out⟩, ⟨bq_ B4.out⟩, ⟨bb_ HB.out⟩⟩
 clear H0 HN B4 B6 HB; obtain ⟨c, i, m1, m2, m3, m4, m5, m6, m7, m8, m9, m10, m11, u2_, u3_, u4_, u5_, u6_, u7_, u8_, u9_, rfl, rfl, HA, HK1, HN, B6, B4, HB⟩ := hrel
 obtain _ | k1 := gk
 ·exact absurd HA.out (by simp [spec_SendAll.l0])
 have h := HA.out; clear HA; simp only [spec_SendAll.l0] at h; obtain ⟨X2_, d2_, e_⟩ := Kd.R_slice HN.out.h2; subst e_; obtain ⟨X3_, d3_, e_⟩ := Kd.R_slice HN.out.h3; subst e_; obtain ⟨X4_, d4_, e_⟩ := Kd.R_slice HN.out.h4; subst e_; obtain ⟨X5_, d5_, e_⟩ := Kd.S_slice HN.out.h5; subst e_; obtain ⟨X6_, d6_, e_⟩ := Kd.R_slice HN.out.h6; subst e_; obtain ⟨X7_, d7_, e_⟩ := Kd.R_slice HN.out.h7; subst e_; obtain ⟨X8_, d8_, e_⟩ := Kd.S_slice HN.out.h8; subst e_; obtain ⟨X9_, d9_, e_⟩ := Kd.S_slice HN.out.h9; subst e_; by_cases c1 : i < (l1.length : Int)
 rotate_left
 ·rw [if_neg c1] at h; simp only [Option.some.injEq, Prod.mk.injEq] at h; obtain ⟨rfl, rfl, rfl, rfl, rfl, rfl, rfl, rfl, rfl, rfl, rfl, rfl⟩ := h; have c1d : decide (i < (l1.length : Int)) = false := decide_eq_false c1; clear c1
  obtain ⟨y0, y1, y2, y3, y4, y5, y6, y7, y8, y9, y10, -⟩ := cz11_ B6.out; obtain ⟨z0, z1, z2, z3, z4, z5, z6, z7, z8, z9, z10, zf0, zf1, zf2, zf3, zf4, zf5, zf6, zf7, zf8, zf9, zf10⟩ := cz11_ B4.out; go_wp2; clear y0 y1 y2 y3 y4 y5 y6 y7 y8 y9 y10 z0 z1 z2 z3 z4 z5 z6 z7 z8 z9 z10 zf0 zf1 zf2 zf3 zf4 zf5 zf6 zf7 zf8 zf9 zf10
  change bodyPost _ _ _ _ _ (st11_ _ g4 (.int .i64 m1) (.int .i64 m2) ((.slice X2_ m3.length d2_)) ((.slice X3_ m4.length d3_)) ((.slice X4_ m5.length d4_)) ((.slice X5_ m6.length d5_)) ((.slice X6_ m7.length d6_)) ((.slice X7_ m8.length d7_)) ((.slice X8_ m9.length d8_)) ((.slice X9_ m10.length d9_)) (.int .i64 (m11)))
  replace HN := am (HN.out.far (w1 := st11_ _ g4 (.int .i64 m1) (.int .i64 m2) ((.slice X2_ m3.length d2_)) ((.slice X3_ m4.length d3_)) ((.slice X4_ m5.length d4_)) ((.slice X5_ m6.length d5_)) ((.slice X6_ m7.length d6_)) ((.slice X7_ m8.length d7_)) ((.slice X8_ m9.length d8_)) ((.slice X9_ m10.length d9_)) (.int .i64 (m11))) (bq_ B4.out) (fun _ h_ => st11_far h_)); replace B4 := am (st11_blk B4.out : (st11_ _ g4 (.int .i64 m1) (.int .i64 m2) ((.slice X2_ m3.length d2_)) ((.slice X3_ m4.length d3_)) ((.slice X4_ m5.length d4_)) ((.slice X5_ m6.length d5_)) ((.slice X6_ m7.length d6_)) ((.slice X7_ m8.length d7_)) ((.slice X8_ m9.length d8_)) ((.slice X9_ m10.length d9_)) (.int .i64 (m11))).heap[g4]? = _); replace HB := am (st11_below HB.out G4.out : Below w.heap.size w (st11_ _ g4 (.int .i64 m1) (.int .i64 m2) ((.slice X2_ m3.length d2_)) ((.slice X3_ m4.length d3_)) ((.slice X4_ m5.length d4_)) ((.slice X5_ m6.length d5_)) ((.slice X6_ m7.length d6_)) ((.slice X7_ m8.length d7_)) ((.slice X8_ m9.length d8_)) ((.slice X9_ m10.length d9_)) (.int .i64 (m11)))); generalize st11_ _ g4 (.int .i64 m1) (.int .i64 m2) ((.slice X2_ m3.length d2_)) ((.slice X3_ m4.length d3_)) ((.slice X4_ m5.length d4_)) ((.slice X5_ m6.length d5_)) ((.slice X6_ m7.length d6_)) ((.slice X7_ m8.length d7_)) ((.slice X8_ m9.length d8_)) ((.slice X9_ m10.length d9_)) (.int .i64 (m11)) = wz at *
  refine bodyPost_ret (results_ct rfl _ _ g4 35 _ (0, 0) _ rfl (bq_ B4.out) Try.underlying35 rfl (by kernel_rfl)) rfl ?_
  exact ⟨_, _, _, _, _, _, _, _, rfl, HN.out, bb_ HB.out⟩
 rw [if_pos c1] at h; by_cases c2 : 0 ≤ i
 rotate_left
 ·rw [if_neg c2] at h; cases h
 rw [if_pos c2] at h
 obtain ⟨x, hx⟩ : ∃ y_, y_ = rd_T89 l1 i := ⟨_, rfl⟩; rw [← hx] at h
 obtain ⟨⟨q1, q2, q3, q4, q5, q6, q7, q8, q9, q10, q11, q12⟩, e1, g_⟩ := Option.bind_eq_some_iff.1 h; clear h; obtain ⟨z, e2, h⟩ := Option.bind_eq_some_iff.1 g_; clear g_; dsimp only at e2 h; have E1 := am e1; have E2 := am e2; have H1 := am h; clear e1 e2 h
 obtain ⟨ad, ea, x0, x1, x2, x3, x4⟩ := at_T89 (cb_ HL.out HB.out) i c2 c1; rw [← hx] at x0 x1 x2 x3 x4; have HX := am hx; clear hx
 have XX : Aside0 (∀ W, Below w.heap.size w W → W.cell? (ad.add (i.toNat * 5)) = some (.int .i64 x.f0) ∧ W.cell? ⟨(ad.add (i.toNat * 5)).block, (ad.add (i.toNat * 5)).off + 1, none⟩ = some (.int .i64 x.f1) ∧ W.cell? ⟨(ad.add (i.toNat * 5)).block, (ad.add (i.toNat * 5)).off + 2, none⟩ = some (.int .i64 x.f2) ∧ W.cell? ⟨(ad.add (i.toNat * 5)).block, (ad.add (i.toNat * 5)).off + 3, none⟩ = some (.int .i64 x.f3) ∧ W.cell? ⟨(ad.add (i.toNat * 5)).block, (ad.add (i.toNat * 5)).off + 4, none⟩ = some (.int .i64 x.f4)) := ⟨fun W hW => by obtain ⟨ad', ea', x0', x1', x2', x3', x4'⟩ := at_T89 (cb_ HL.out hW) i c2 c1; cases ea.symm.trans ea'; rw [← HX.out] at x0' x1' x2' x3' x4'; exact ⟨x0', x1', x2', x3', x4'⟩⟩; clear x0 x1 x2 x3 x4
 subst ea; have c1d : decide (i < (l1.length : Int)) = true := decide_eq_true c1; have P1 := am c1; have P2 := am c2; clear c1 c2
 go_upto_region 8 with fail
 have c1 := eq_true P1.out; have c2 := eq_true P2.out; clear c1d
 refine start_ (n := 12) (S := fun w' => w'.cell? ⟨g6, 0, none⟩ = some (.int .i64 m1) ∧ w'.cell? ⟨g6, 1, none⟩ = some (.int .i64 m2) ∧ w'.cell? ⟨g6, 2, none⟩ = some ((.slice X2_ m3.length d2_)) ∧ w'.cell? ⟨g6, 3, none⟩ = some ((.slice X3_ m4.length d3_)) ∧ w'.cell? ⟨g6, 4, none⟩ = some ((.slice X4_ m5.length d4_)) ∧ w'.cell? ⟨g6, 5, none⟩ = some ((.slice X5_ m6.length d5_)) ∧ w'.cell? ⟨g6, 6, none⟩ = some ((.slice X6_ m7.length d6_)) ∧ w'.cell? ⟨g6, 7, none⟩ = some ((.slice X7_ m8.length d7_)) ∧ w'.cell? ⟨g6, 8, none⟩ = some ((.slice X8_ m9.length d8_)) ∧ w'.cell? ⟨g6, 9, none⟩ = some ((.slice X9_ m10.length d9_)) ∧ w'.cell? ⟨g6, 10, none⟩ = some (.int .i64 (m11)) ∧ w'.cell? (ad.add (i.toNat * 5)) = some (.int .i64 x.f0) ∧ w'.cell? ⟨(ad.add (i.toNat * 5)).block, (ad.add (i.toNat * 5)).off + 1, none⟩ = some (.int .i64 x.f1) ∧ w'.cell? ⟨(ad.add (i.toNat * 5)).block, (ad.add (i.toNat * 5)).off + 2, none⟩ = some (.int .i64 x.f2) ∧ w'.cell? ⟨(ad.add (i.toNat * 5)).block, (ad.add (i.toNat * 5)).off + 3, none⟩ = some (.int .i64 x.f3) ∧ w'.cell? ⟨(ad.add (i.toNat * 5)).block, (ad.add (i.toNat * 5)).off + 4, none⟩ = some (.int .i64 x.f4)) (ds := []) #[false, false, false, false, false, false, false, false, false, false, false, false] (by kernel_rfl) rfl rfl ⟨(blk_cell B6.out 0).trans rfl, (blk_cell B6.out 1).trans rfl, (blk_cell B6.out 2).trans rfl, (blk_cell B6.out 3).trans rfl, (blk_cell B6.out 4).trans rfl, (blk_cell B6.out 5).trans rfl, (blk_cell B6.out 6).trans rfl, (blk_cell B6.out 7).trans rfl, (blk_cell B6.out 8).trans rfl, (blk_cell B6.out 9).trans rfl, (blk_cell B6.out 10).trans rfl, (XX.out _ HB.out).1, (XX.out _ HB.out).2.1, (XX.out _ HB.out).2.2.1, (XX.out _ HB.out).2.2.2.1, (XX.out _ HB.out).2.2.2.2⟩ (fun hHeld => ?_)
 replace HN := am HN.out.drew; replace B6 := am (bq_ B6.out : wr.drew.heap[g6]? = _); replace B4 := am (bq_ B4.out : wr.drew.heap[g4]? = _); replace HB := am (bb_ HB.out : Below w.heap.size w wr.drew); generalize wr.drew = wa at *
 refine pk_ 1 30 (bt_ 12 2) ?_
 refine pk_ 2 31 (bt_ 12 6) ?_
 refine pk_ 3 32 (bt_ 12 14) ?_
 refine tk_ (v := .agg #[.int .i64 m1, .int .i64 m2, (.slice X2_ m3.length d2_), (.slice X3_ m4.length d3_), (.slice X4_ m5.length d4_), (.slice X5_ m6.length d5_), (.slice X6_ m7.length d6_), (.slice X7_ m8.length d7_), (.slice X8_ m9.length d8_), (.slice X9_ m10.length d9_), .int .i64 m11]) 0 29 (bt_ 12 15) hHeld ?_ (hy := by rintro w' ⟨s0, s1, s2, s3, s4, s5, s6, s7, s8, s9, s10, s11, s12, s13, s14, s15⟩; go_simp)
 refine tk_ (v := .agg #[.int .i64 x.f0, .int .i64 x.f1, .int .i64 x.f2, .int .i64 x.f3, .int .i64 x.f4]) 4 33 (bt_ 12 31) hHeld ?_ (hy := by rintro w' ⟨s0, s1, s2, s3, s4, s5, s6, s7, s8, s9, s10, s11, s12, s13, s14, s15⟩; go_simp)
 refine join_ (σ := Value × Value × Value × Value × Value × Value × Value × Value × Nat) 2 #[true, true, true, true, true, true, true, true, true, true, false, false] (fun s_ => [(34, .tuple #[.agg #[.int .i64 q1, .int .i64 q2, s_.1, s_.2.1, s_.2.2.1, s_.2.2.2.1, s_.2.2.2.2.1, s_.2.2.2.2.2.1, s_.2.2.2.2.2.2.1, s_.2.2.2.2.2.2.2.1, .int .i64 q11], .bool q12]), (9, .pointer (some ⟨s_.2.2.2.2.2.2.2.2, 0, none⟩)), (28, .tuple #[.agg #[.int .i64 q1, .int .i64 q2, s_.1, s_.2.1, s_.2.2.1, s_.2.2.2.1, s_.2.2.2.2.1, s_.2.2.2.2.2.1, s_.2.2.2.2.2.2.1, s_.2.2.2.2.2.2.2.1, .int .i64 q11], .bool q12]), (35, .agg #[.int .i64 q1, .int .i64 q2, s_.1, s_.2.1, s_.2.2.1, s_.2.2.2.1, s_.2.2.2.2.1, s_.2.2.2.2.2.1, s_.2.2.2.2.2.2.1, s_.2.2.2.2.2.2.2.1, .int .i64 q11]), (36, .bool q12)]) (fun s_ w' => (w'.cell? ⟨g6, 0, none⟩ = some (.int .i64 m1) ∧ w'.cell? ⟨g6, 1, none⟩ = some (.int .i64 m2) ∧ w'.cell? ⟨g6, 2, none⟩ = some ((.slice X2_ m3.length d2_)) ∧ w'.cell? ⟨g6, 3, none⟩ = some ((.slice X3_ m4.length d3_)) ∧ w'.cell? ⟨g6, 4, none⟩ = some ((.slice X4_ m5.length d4_)) ∧ w'.cell? ⟨g6, 5, none⟩ = some ((.slice X5_ m6.length d5_)) ∧ w'.cell? ⟨g6, 6, none⟩ = some ((.slice X6_ m7.length d6_)) ∧ w'.cell? ⟨g6, 7, none⟩ = some ((.slice X7_ m8.length d7_)) ∧ w'.cell? ⟨g6, 8, none⟩ = some ((.slice X8_ m9.length d8_)) ∧ w'.cell? ⟨g6, 9, none⟩ = some ((.slice X9_ m10.length d9_)) ∧ w'.cell? ⟨g6, 10, none⟩ = some (.int .i64 (m11)) ∧ w'.cell? (ad.add (i.toNat * 5)) = some (.int .i64 x.f0) ∧ w'.cell? ⟨(ad.add (i.toNat * 5)).block, (ad.add (i.toNat * 5)).off + 1, none⟩ = some (.int .i64 x.f1) ∧ w'.cell? ⟨(ad.add (i.toNat * 5)).block, (ad.add (i.toNat * 5)).off + 2, none⟩ = some (.int .i64 x.f2) ∧ w'.cell? ⟨(ad.add (i.toNat * 5)).block, (ad.add (i.toNat * 5)).off + 3, none⟩ = some (.int .i64 x.f3) ∧ w'.cell? ⟨(ad.add (i.toNat * 5)).block, (ad.add (i.toNat * 5)).off + 4, none⟩ = some (.int .i64 x.f4)) ∧ Std8 w.heap.size w' s_.1 s_.2.1 s_.2.2.1 s_.2.2.2.1 s_.2.2.2.2.1 s_.2.2.2.2.2.1 s_.2.2.2.2.2.2.1 s_.2.2.2.2.2.2.2.1 q3 q4 q5 q6 q7 q8 q9 q10 ∧ w'.heap[g4]? = some (.cells #[.int .i64 0, .int .i64 0, .slice none 0 0, .slice none 0 0, .slice none 0 0, .slice none 0 0, .slice none 0 0, .slice none 0 0, .slice none 0 0, .slice none 0 0, .int .i64 0] 35 (0, 0)) ∧ w'.heap[g6]? = some (.cells #[.int .i64 m1, .int .i64 m2, (.slice X2_ m3.length d2_), (.slice X3_ m4.length d3_), (.slice X4_ m5.length d4_), (.slice X5_ m6.length d5_), (.slice X6_ m7.length d6_), (.slice X7_ m8.length d7_), (.slice X8_ m9.length d8_), (.slice X9_ m10.length d9_), .int .i64 m11] 35 (0, 0)) ∧ w'.heap[s_.2.2.2.2.2.2.2.2]? = some (.cells #[.int .i64 0, .int .i64 0, .slice none 0 0, .slice none 0 0, .slice none 0 0, .slice none 0 0, .slice none 0 0, .slice none 0 0, .slice none 0 0, .slice none 0 0, .int .i64 0] 35 (0, 0)) ∧ w.heap.size ≤ s_.2.2.2.2.2.2.2.2 ∧ g4 ≠ s_.2.2.2.2.2.2.2.2 ∧ g6 ≠ s_.2.2.2.2.2.2.2.2 ∧ Below w.heap.size w w') ?_ ?_
 rotate_left
 ·intro hCont
  refine two_ (i := 5) (j := 9) (Ni := some 34) (Nj := some 9) #[true, true, true, true, true, true, false, false, false, false, false, false] #[true, true, true, true, true, false, false, false, false, true, false, false] rfl rfl rfl rfl (by kernel_rfl) (by decide) (by decide) (fun K hK => ?_) (fun K hK => ?_)
  ·
   refine gs_ Try.func63 #[.agg #[.int .i64 m1, .int .i64 m2, (.slice X2_ m3.length d2_), (.slice X3_ m4.length d3_), (.slice X4_ m5.length d4_), (.slice X5_ m6.length d5_), (.slice X6_ m7.length d6_), (.slice X7_ m8.length d7_), (.slice X8_ m9.length d8_), (.slice X9_ m10.length d9_), .int .i64 m11], .agg #[.int .i64 x.f0, .int .i64 x.f1, .int .i64 x.f2, .int .i64 x.f3, .int .i64 x.f4]] ?_
   have HO := HN; with_reducible refine (spec_SendPacket.callsS k1 m1 m2 _ _ m3 _ _ m4 _ _ m5 _ _ m6 _ _ m7 _ _ m8 _ _ m9 _ _ m10 m11 x.f0 x.f1 x.f2 x.f3 x.f4 q1 q2 q3 q4 q5 q6 q7 q8 q9 q10 q11 q12 _ (Kd.R_reads' HO.out.h2).2.2 (Kd.R_reads' HO.out.h2).2.1 (Kd.R_reads' HO.out.h3).2.2 (Kd.R_reads' HO.out.h3).2.1 (Kd.R_reads' HO.out.h4).2.2 (Kd.R_reads' HO.out.h4).2.1 (Kd.S_reads' HO.out.h5).2.2 (Kd.S_reads' HO.out.h5).2.1 (Kd.R_reads' HO.out.h6).2.2 (Kd.R_reads' HO.out.h6).2.1 (Kd.R_reads' HO.out.h7).2.2 (Kd.R_reads' HO.out.h7).2.1 (Kd.S_reads' HO.out.h8).2.2 (Kd.S_reads' HO.out.h8).2.1 (Kd.S_reads' HO.out.h9).2.2 (Kd.S_reads' HO.out.h9).2.1 E1.out).mono ?_; rintro e wb ⟨n2_, n3_, n4_, n5_, n6_, n7_, n8_, n9_, rfl, hS, hb⟩; refine ⟨_, rfl, ?_⟩
   have hs_ := bz_ HB.out; replace HN := am (hS.lower hs_); clear HO hS; replace B4 := kb_ B4 hb; replace B6 := kb_ B6 hb; replace HB := h9_ HB hb; clear hb hs_
   refine hK.out _ _ ⟨(blk_cell B6.out 0).trans rfl, (blk_cell B6.out 1).trans rfl, (blk_cell B6.out 2).trans rfl, (blk_cell B6.out 3).trans rfl, (blk_cell B6.out 4).trans rfl, (blk_cell B6.out 5).trans rfl, (blk_cell B6.out 6).trans rfl, (blk_cell B6.out 7).trans rfl, (blk_cell B6.out 8).trans rfl, (blk_cell B6.out 9).trans rfl, (blk_cell B6.out 10).trans rfl, (XX.out _ HB.out).1, (XX.out _ HB.out).2.1, (XX.out _ HB.out).2.2.1, (XX.out _ HB.out).2.2.2.1, (XX.out _ HB.out).2.2.2.2⟩ (fun hHeld => ?_)
   clear hK K
   refine nm_ 34 ?_
   refine pk_ 6 28 (bt_ 12 127) ?_
   refine pk_ 7 35 (bt_ 12 255) ?_
   refine pk_ 8 36 (bt_ 12 511) ?_
   refine one_ (i := 9) (N := some 9) (bt_ 12 1023) rfl rfl (by kernel_rfl) (by decide) (fun K hK => ?_)
   refine box_step ?hg (N := 9) ?hd (cs := #[.int .i64 0, .int .i64 0, .slice none 0 0, .slice none 0 0, .slice none 0 0, .slice none 0 0, .slice none 0 0, .slice none 0 0, .slice none 0 0, .slice none 0 0, .int .i64 0]) (t := 35) ?hr ?_; (case hd => rfl); (case hg => rfl); (case hr => first | (go_simp; done) | (go_simp; rfl)); intro g9 hg w1 hbox hb
   have B9 := am hbox; have G9 := am (show w.heap.size ≤ g9 by rw [hg]; exact (bz_ HB.out)); have N4 := am (show g4 ≠ g9 by rw [hg]; exact Nat.ne_of_lt (bl_ B4.out)); have N6 := am (show g6 ≠ g9 by rw [hg]; exact Nat.ne_of_lt (bl_ B6.out)); replace HN := am (HN.out.below hb); replace B4 := kb_ B4 hb; replace B6 := kb_ B6 hb; replace HB := h9_ HB hb; clear hb hbox hg
   refine hK.out _ _ ⟨(blk_cell B6.out 0).trans rfl, (blk_cell B6.out 1).trans rfl, (blk_cell B6.out 2).trans rfl, (blk_cell B6.out 3).trans rfl, (blk_cell B6.out 4).trans rfl, (blk_cell B6.out 5).trans rfl, (blk_cell B6.out 6).trans rfl, (blk_cell B6.out 7).trans rfl, (blk_cell B6.out 8).trans rfl, (blk_cell B6.out 9).trans rfl, (blk_cell B6.out 10).trans rfl, (XX.out _ HB.out).1, (XX.out _ HB.out).2.1, (XX.out _ HB.out).2.2.1, (XX.out _ HB.out).2.2.2.1, (XX.out _ HB.out).2.2.2.2⟩ (fun hHeld => ?_)
   clear hK K
   refine nm_ 9 ?_
   exact norm_ (by simp only [putAll, Act.put, List.setIfInBounds_toArray, List.set_cons_zero, List.set_cons_succ]) (hCont (n2_, n3_, n4_, n5_, n6_, n7_, n8_, n9_, g9) _ ⟨hHeld, HN.out, bq_ B4.out, bq_ B6.out, bq_ B9.out, G9.out, N4.out, N6.out, bb_ HB.out⟩)
  ·
   refine box_step ?hg (N := 9) ?hd (cs := #[.int .i64 0, .int .i64 0, .slice none 0 0, .slice none 0 0, .slice none 0 0, .slice none 0 0, .slice none 0 0, .slice none 0 0, .slice none 0 0, .slice none 0 0, .int .i64 0]) (t := 35) ?hr ?_; (case hd => rfl); (case hg => rfl); (case hr => first | (go_simp; done) | (go_simp; rfl)); intro g9 hg w1 hbox hb
   have B9 := am hbox; have G9 := am (show w.heap.size ≤ g9 by rw [hg]; exact (bz_ HB.out)); have N4 := am (show g4 ≠ g9 by rw [hg]; exact Nat.ne_of_lt (bl_ B4.out)); have N6 := am (show g6 ≠ g9 by rw [hg]; exact Nat.ne_of_lt (bl_ B6.out)); replace HN := am (HN.out.below hb); replace B4 := kb_ B4 hb; replace B6 := kb_ B6 hb; replace HB := h9_ HB hb; clear hb hbox hg
   refine hK.out _ _ ⟨(blk_cell B6.out 0).trans rfl, (blk_cell B6.out 1).trans rfl, (blk_cell B6.out 2).trans rfl, (blk_cell B6.out 3).trans rfl, (blk_cell B6.out 4).trans rfl, (blk_cell B6.out 5).trans rfl, (blk_cell B6.out 6).trans rfl, (blk_cell B6.out 7).trans rfl, (blk_cell B6.out 8).trans rfl, (blk_cell B6.out 9).trans rfl, (blk_cell B6.out 10).trans rfl, (XX.out _ HB.out).1, (XX.out _ HB.out).2.1, (XX.out _ HB.out).2.2.1, (XX.out _ HB.out).2.2.2.1, (XX.out _ HB.out).2.2.2.2⟩ (fun hHeld => ?_)
   clear hK K
   refine nm_ 9 ?_
   refine one_ (i := 5) (N := some 34) (bt_ 12 575) rfl rfl (by kernel_rfl) (by decide) (fun K hK => ?_)
   refine gs_ Try.func63 #[.agg #[.int .i64 m1, .int .i64 m2, (.slice X2_ m3.length d2_), (.slice X3_ m4.length d3_), (.slice X4_ m5.length d4_), (.slice X5_ m6.length d5_), (.slice X6_ m7.length d6_), (.slice X7_ m8.length d7_), (.slice X8_ m9.length d8_), (.slice X9_ m10.length d9_), .int .i64 m11], .agg #[.int .i64 x.f0, .int .i64 x.f1, .int .i64 x.f2, .int .i64 x.f3, .int .i64 x.f4]] ?_
   have HO := HN; with_reducible refine (spec_SendPacket.callsS k1 m1 m2 _ _ m3 _ _ m4 _ _ m5 _ _ m6 _ _ m7 _ _ m8 _ _ m9 _ _ m10 m11 x.f0 x.f1 x.f2 x.f3 x.f4 q1 q2 q3 q4 q5 q6 q7 q8 q9 q10 q11 q12 _ (Kd.R_reads' HO.out.h2).2.2 (Kd.R_reads' HO.out.h2).2.1 (Kd.R_reads' HO.out.h3).2.2 (Kd.R_reads' HO.out.h3).2.1 (Kd.R_reads' HO.out.h4).2.2 (Kd.R_reads' HO.out.h4).2.1 (Kd.S_reads' HO.out.h5).2.2 (Kd.S_reads' HO.out.h5).2.1 (Kd.R_reads' HO.out.h6).2.2 (Kd.R_reads' HO.out.h6).2.1 (Kd.R_reads' HO.out.h7).2.2 (Kd.R_reads' HO.out.h7).2.1 (Kd.S_reads' HO.out.h8).2.2 (Kd.S_reads' HO.out.h8).2.1 (Kd.S_reads' HO.out.h9).2.2 (Kd.S_reads' HO.out.h9).2.1 E1.out).mono ?_; rintro e wb ⟨n2_, n3_, n4_, n5_, n6_, n7_, n8_, n9_, rfl, hS, hb⟩; refine ⟨_, rfl, ?_⟩
   have hs_ := bz_ HB.out; replace HN := am (hS.lower hs_); clear HO hS; replace B4 := kb_ B4 hb; replace B6 := kb_ B6 hb; replace B9 := kb_ B9 hb; replace HB := h9_ HB hb; clear hb hs_
   refine hK.out _ _ ⟨(blk_cell B6.out 0).trans rfl, (blk_cell B6.out 1).trans rfl, (blk_cell B6.out 2).trans rfl, (blk_cell B6.out 3).trans rfl, (blk_cell B6.out 4).trans rfl, (blk_cell B6.out 5).trans rfl, (blk_cell B6.out 6).trans rfl, (blk_cell B6.out 7).trans rfl, (blk_cell B6.out 8).trans rfl, (blk_cell B6.out 9).trans rfl, (blk_cell B6.out 10).trans rfl, (XX.out _ HB.out).1, (XX.out _ HB.out).2.1, (XX.out _ HB.out).2.2.1, (XX.out _ HB.out).2.2.2.1, (XX.out _ HB.out).2.2.2.2⟩ (fun hHeld => ?_)
   clear hK K
   refine nm_ 34 ?_
   refine pk_ 6 28 (bt_ 12 639) ?_
   refine pk_ 7 35 (bt_ 12 767) ?_
   refine pk_ 8 36 (bt_ 12 1023) ?_
   exact norm_ (by simp only [putAll, Act.put, List.setIfInBounds_toArray, List.set_cons_zero, List.set_cons_succ]) (hCont (n2_, n3_, n4_, n5_, n6_, n7_, n8_, n9_, g9) _ ⟨hHeld, HN.out, bq_ B4.out, bq_ B6.out, bq_ B9.out, G9.out, N4.out, N6.out, bb_ HB.out⟩)
 clear HN B4 B6 HB hHeld; rintro ⟨n2_, n3_, n4_, n5_, n6_, n7_, n8_, n9_, g9⟩ wc ⟨hHeld, h1_, h2_, h3_, h4_, h5_, h6_, h7_, h8_⟩; have HN := am h1_; have B4 := am h2_; have B6 := am h3_; have B9 := am h4_; have G9 := am h5_; have N4 := am h6_; have N6 := am h7_; have HB := am h8_; clear h1_ h2_ h3_ h4_ h5_ h6_ h7_ h8_ E1; obtain ⟨Y2_, e2_, e_⟩ := Kd.R_slice HN.out.h2; subst e_; obtain ⟨Y3_, e3_, e_⟩ := Kd.R_slice HN.out.h3; subst e_; obtain ⟨Y4_, e4_, e_⟩ := Kd.R_slice HN.out.h4; subst e_; obtain ⟨Y5_, e5_, e_⟩ := Kd.S_slice HN.out.h5; subst e_; obtain ⟨Y6_, e6_, e_⟩ := Kd.R_slice HN.out.h6; subst e_; obtain ⟨Y7_, e7_, e_⟩ := Kd.R_slice HN.out.h7; subst e_; obtain ⟨Y8_, e8_, e_⟩ := Kd.S_slice HN.out.h8; subst e_; obtain ⟨Y9_, e9_, e_⟩ := Kd.S_slice HN.out.h9; subst e_
 refine norm_ (a' := ?_) ?_ ?_
 rotate_left
 ·simp only [putAll, Act.put, List.setIfInBounds_toArray, List.set_cons_zero, List.set_cons_succ]
  rfl
 refine one_ (i := 10) (N := none) (bt_ 12 2047) rfl rfl (by kernel_rfl) (by decide) (fun K hK => ?_)
 obtain ⟨z0, z1, z2, z3, z4, z5, z6, z7, z8, z9, z10, zf0, zf1, zf2, zf3, zf4, zf5, zf6, zf7, zf8, zf9, zf10⟩ := cz11_ B9.out; refine skip_ (w1 := ?_) (by rfl) rfl ?_ ?_
 rotate_left
 ·go_simp
  rfl
 clear z0 z1 z2 z3 z4 z5 z6 z7 z8 z9 z10 zf0 zf1 zf2 zf3 zf4 zf5 zf6 zf7 zf8 zf9 zf10; replace HN := am (HN.out.far (w1 := st11_ wc g9 (.int .i64 q1) (.int .i64 q2) ((.slice Y2_ q3.length e2_)) ((.slice Y3_ q4.length e3_)) ((.slice Y4_ q5.length e4_)) ((.slice Y5_ q6.length e5_)) ((.slice Y6_ q7.length e6_)) ((.slice Y7_ q8.length e7_)) ((.slice Y8_ q9.length e8_)) ((.slice Y9_ q10.length e9_)) (.int .i64 (q11))) (bq_ B9.out) (fun _ h_ => st11_far h_)); replace B4 := am ((st11_far N4.out : (st11_ wc g9 (.int .i64 q1) (.int .i64 q2) ((.slice Y2_ q3.length e2_)) ((.slice Y3_ q4.length e3_)) ((.slice Y4_ q5.length e4_)) ((.slice Y5_ q6.length e5_)) ((.slice Y6_ q7.length e6_)) ((.slice Y7_ q8.length e7_)) ((.slice Y8_ q9.length e8_)) ((.slice Y9_ q10.length e9_)) (.int .i64 (q11))).heap[g4]? = _).trans B4.out); replace B6 := am ((st11_far N6.out : (st11_ wc g9 (.int .i64 q1) (.int .i64 q2) ((.slice Y2_ q3.length e2_)) ((.slice Y3_ q4.length e3_)) ((.slice Y4_ q5.length e4_)) ((.slice Y5_ q6.length e5_)) ((.slice Y6_ q7.length e6_)) ((.slice Y7_ q8.length e7_)) ((.slice Y8_ q9.length e8_)) ((.slice Y9_ q10.length e9_)) (.int .i64 (q11))).heap[g6]? = _).trans B6.out); replace B9 := am (st11_blk B9.out : (st11_ wc g9 (.int .i64 q1) (.int .i64 q2) ((.slice Y2_ q3.length e2_)) ((.slice Y3_ q4.length e3_)) ((.slice Y4_ q5.length e4_)) ((.slice Y5_ q6.length e5_)) ((.slice Y6_ q7.length e6_)) ((.slice Y7_ q8.length e7_)) ((.slice Y8_ q9.length e8_)) ((.slice Y9_ q10.length e9_)) (.int .i64 (q11))).heap[g9]? = _); replace HB := am (st11_below HB.out G9.out : Below w.heap.size w (st11_ wc g9 (.int .i64 q1) (.int .i64 q2) ((.slice Y2_ q3.length e2_)) ((.slice Y3_ q4.length e3_)) ((.slice Y4_ q5.length e4_)) ((.slice Y5_ q6.length e5_)) ((.slice Y6_ q7.length e6_)) ((.slice Y7_ q8.length e7_)) ((.slice Y8_ q9.length e8_)) ((.slice Y9_ q10.length e9_)) (.int .i64 (q11))))
 refine hK.out _ (st11_ wc g9 (.int .i64 q1) (.int .i64 q2) ((.slice Y2_ q3.length e2_)) ((.slice Y3_ q4.length e3_)) ((.slice Y4_ q5.length e4_)) ((.slice Y5_ q6.length e5_)) ((.slice Y6_ q7.length e6_)) ((.slice Y7_ q8.length e7_)) ((.slice Y8_ q9.length e8_)) ((.slice Y9_ q10.length e9_)) (.int .i64 (q11))) ⟨(blk_cell B6.out 0).trans rfl, (blk_cell B6.out 1).trans rfl, (blk_cell B6.out 2).trans rfl, (blk_cell B6.out 3).trans rfl, (blk_cell B6.out 4).trans rfl, (blk_cell B6.out 5).trans rfl, (blk_cell B6.out 6).trans rfl, (blk_cell B6.out 7).trans rfl, (blk_cell B6.out 8).trans rfl, (blk_cell B6.out 9).trans rfl, (blk_cell B6.out 10).trans rfl, (XX.out _ HB.out).1, (XX.out _ HB.out).2.1, (XX.out _ HB.out).2.2.1, (XX.out _ HB.out).2.2.2.1, (XX.out _ HB.out).2.2.2.2⟩ (fun hHeld => ?_); clear hK K
 generalize st11_ wc g9 (.int .i64 q1) (.int .i64 q2) ((.slice Y2_ q3.length e2_)) ((.slice Y3_ q4.length e3_)) ((.slice Y4_ q5.length e4_)) ((.slice Y5_ q6.length e5_)) ((.slice Y6_ q7.length e6_)) ((.slice Y7_ q8.length e7_)) ((.slice Y8_ q9.length e8_)) ((.slice Y9_ q10.length e9_)) (.int .i64 (q11)) = wd at *
 refine pk_ 11 10 (bt_ 12 4095) ?_
 refine done_ (by kernel_rfl) ?_
 clear hHeld
 obtain ⟨y0, y1, y2, y3, y4, y5, y6, y7, y8, y9, y10, -⟩ := cz11_ B9.out; obtain ⟨z0, z1, z2, z3, z4, z5, z6, z7, z8, z9, z10, zf0, zf1, zf2, zf3, zf4, zf5, zf6, zf7, zf8, zf9, zf10⟩ := cz11_ B6.out; go_upto_region 10 with fail; clear y0 y1 y2 y3 y4 y5 y6 y7 y8 y9 y10 z0 z1 z2 z3 z4 z5 z6 z7 z8 z9 z10 zf0 zf1 zf2 zf3 zf4 zf5 zf6 zf7 zf8 zf9 zf10
 change Code.wp _ _ _ _ (st11_ wd g6 (.int .i64 q1) (.int .i64 q2) ((.slice Y2_ q3.length e2_)) ((.slice Y3_ q4.length e3_)) ((.slice Y4_ q5.length e4_)) ((.slice Y5_ q6.length e5_)) ((.slice Y6_ q7.length e6_)) ((.slice Y7_ q8.length e7_)) ((.slice Y8_ q9.length e8_)) ((.slice Y9_ q10.length e9_)) (.int .i64 (q11)))
 replace B4 := am ((st11_far N46.out : (st11_ wd g6 (.int .i64 q1) (.int .i64 q2) ((.slice Y2_ q3.length e2_)) ((.slice Y3_ q4.length e3_)) ((.slice Y4_ q5.length e4_)) ((.slice Y5_ q6.length e5_)) ((.slice Y6_ q7.length e6_)) ((.slice Y7_ q8.length e7_)) ((.slice Y8_ q9.length e8_)) ((.slice Y9_ q10.length e9_)) (.int .i64 (q11))).heap[g4]? = _).trans B4.out); replace HN := am (HN.out.far (w1 := st11_ wd g6 (.int .i64 q1) (.int .i64 q2) ((.slice Y2_ q3.length e2_)) ((.slice Y3_ q4.length e3_)) ((.slice Y4_ q5.length e4_)) ((.slice Y5_ q6.length e5_)) ((.slice Y6_ q7.length e6_)) ((.slice Y7_ q8.length e7_)) ((.slice Y8_ q9.length e8_)) ((.slice Y9_ q10.length e9_)) (.int .i64 (q11))) (bq_ B6.out) (fun _ h_ => st11_far h_)); replace B6 := am (st11_blk B6.out : (st11_ wd g6 (.int .i64 q1) (.int .i64 q2) ((.slice Y2_ q3.length e2_)) ((.slice Y3_ q4.length e3_)) ((.slice Y4_ q5.length e4_)) ((.slice Y5_ q6.length e5_)) ((.slice Y6_ q7.length e6_)) ((.slice Y7_ q8.length e7_)) ((.slice Y8_ q9.length e8_)) ((.slice Y9_ q10.length e9_)) (.int .i64 (q11))).heap[g6]? = _); replace HB := am (st11_below HB.out G6.out : Below w.heap.size w (st11_ wd g6 (.int .i64 q1) (.int .i64 q2) ((.slice Y2_ q3.length e2_)) ((.slice Y3_ q4.length e3_)) ((.slice Y4_ q5.length e4_)) ((.slice Y5_ q6.length e5_)) ((.slice Y6_ q7.length e6_)) ((.slice Y7_ q8.length e7_)) ((.slice Y8_ q9.length e8_)) ((.slice Y9_ q10.length e9_)) (.int .i64 (q11)))); clear B9; generalize st11_ wd g6 (.int .i64 q1) (.int .i64 q2) ((.slice Y2_ q3.length e2_)) ((.slice Y3_ q4.length e3_)) ((.slice Y4_ q5.length e4_)) ((.slice Y5_ q6.length e5_)) ((.slice Y6_ q7.length e6_)) ((.slice Y7_ q8.length e7_)) ((.slice Y8_ q9.length e8_)) ((.slice Y9_ q10.length e9_)) (.int .i64 (q11)) = we at *
 go_wp2_with (go_at_call 64; (with_reducible refine (spec_l16Bit.calls q12 z _ E2.out).mono ?_); rintro e wf ⟨rfl, hd⟩; have hb := hd.below; replace HN := am (HN.out.below hb); replace B4 := kb_ B4 hb; replace B6 := kb_ B6 hb; replace HB := h9_ HB hb; clear hb hd)
 go_roundg k1
 case measure => have := HK1.out; omega
 case rel => exact ⟨_, _, q1, q2, q3, q4, q5, q6, q7, q8, q9, q10, q11, _, _, _, _, _, _, _, _, rfl, rfl, H1, ⟨by have := HK1.out; omega⟩, ⟨HN.out⟩, ⟨bq_ B6.out⟩, ⟨bq_ B4.out⟩, ⟨bb_ HB.out⟩⟩
def spec_l14Packet.f (s0_0 : List Int) (s0_1 : Int) (s0_2 : Int) (a1_0 : Int) (a1_1 : Int) (a2 : Int) : Option (Int × Int × Int × Int × Int × Int × Int) := (spec_NodeCount.f a1_0 a1_1).bind fun t359 => ((spec_l01Below.f s0_0 s0_1 s0_2 t359).bind fun bt360 => ((spec_l01Below.f s0_0 bt360.2.1 bt360.2.2 (wrap64 (t359 - 1))).bind fun bt363 => (if t359 = 0 then (none) else ((spec_l01Below.f s0_0 bt363.2.1 bt363.2.2 2).bind fun bt366 => ((spec_l01Below.f s0_0 bt366.2.1 bt366.2.2 5).bind fun bt369 => (some (a2, bt360.1, Int.tmod (wrap64 ((wrap64 (bt360.1 + 1)) + bt363.1)) t359, bt366.1, wrap64 (1 + bt369.1), bt369.2.1, bt369.2.2)))))))
theorem spec_l14Packet.calls (g : Nat) (s0_0 : List Int) (s0_1 : Int) (s0_2 : Int) (a1_0 : Int) (a1_1 : Int) (a2 : Int) (r1 : Int) (r2 : Int) (r3 : Int) (r4 : Int) (r5 : Int) (r6 : Int) (r7 : Int) (w0 w : World) (hI : IsS67 w0 w g s0_0 s0_1 s0_2) (hB : Below w0.heap.size w0 w) (h : spec_l14Packet.f s0_0 s0_1 s0_2 a1_0 a1_1 a2 = some (r1, r2, r3, r4, r5, r6, r7)) :
  Calls Try.prog 65 #[.pointer (some ⟨g, 0, none⟩), .agg #[.int .i64 a1_0, .int .i64 a1_1], .int .i64 a2] w fun e w' => e = .returned (.agg #[.int .i64 r1, .int .i64 r2, .int .i64 r3, .int .i64 r4, .int .i64 r5]) ∧ IsS67 w0 w' g s0_0 r6 r7 ∧ Below w0.heap.size w0 w' ∧ KeepBut w w' g none := by
 have hu25 := Try.underlying25
 have hu89 := Try.underlying89
 have HI0 := am hI
 have HK := am (KeepBut.refl w g none)
 have HL := am hB.size
 clear hI
 have HW0 := am hB.size
 have HB := am hB
 clear hB
 have H : ((spec_NodeCount.f a1_0 a1_1).bind fun t359 => ((spec_l01Below.f s0_0 s0_1 s0_2 t359).bind fun bt360 => ((spec_l01Below.f s0_0 bt360.2.1 bt360.2.2 (wrap64 (t359 - 1))).bind fun bt363 => (if t359 = 0 then (none) else ((spec_l01Below.f s0_0 bt363.2.1 bt363.2.2 2).bind fun bt366 => ((spec_l01Below.f s0_0 bt366.2.1 bt366.2.2 5).bind fun bt369 => (some (a2, bt360.1, Int.tmod (wrap64 ((wrap64 (bt360.1 + 1)) + bt363.1)) t359, bt366.1, wrap64 (1 + bt369.1), bt369.2.1, bt369.2.2)))))))) = some (r1, r2, r3, r4, r5, r6, r7) := h
 clear h
 obtain ⟨t359, A4, H⟩ := bi_ H
 obtain ⟨⟨t360, t361, t362⟩, A5, H⟩ := bi_ H
 try dsimp only at H
 obtain ⟨⟨t363, t364, t365⟩, A6, H⟩ := bi_ H
 try dsimp only at H
 by_cases c7 : t359 = 0
 ·rw [if_pos c7] at H
  exact absurd H (by simp)
 ·rw [if_neg c7] at H
  have c7b0 : (t359 == 0) = false := beq_eq_false_iff_ne.mpr c7
  have c7b1 : (t359 != 0) = true := bne_iff_ne.mpr c7
  obtain ⟨⟨t366, t367, t368⟩, A8, H⟩ := bi_ H
  try dsimp only at H
  obtain ⟨⟨t369, t370, t371⟩, A9, H⟩ := bi_ H
  try dsimp only at H
  simp only [Option.some.injEq, Prod.mk.injEq] at H
  obtain ⟨rfl, rfl, rfl, rfl, rfl, rfl, rfl⟩ := H
  go_enter Try.func65, Try.ntmps65
  go_wp2_with (first | ((with_reducible refine gate_dst (N := 4) rfl ?_); refine bx_ 4 #[.int .i64 a1_0, .int .i64 a1_1] 25 ?_; intro gb357 hg w10 hbox hb; replace HB := am (below_step (hb_ HB.out) hb); have BK357 := am (hbox); have GW357 := am ((by rw [hg]; exact (keep_size (w := w) (g := g) (row := none) (kh_ HK.out)) : w.heap.size ≤ gb357)); have GE357 := am ((Nat.le_trans HW0.out (by rw [hg]; exact (keep_size (w := w) (g := g) (row := none) (kh_ HK.out)) : w.heap.size ≤ gb357) : w0.heap.size ≤ gb357)); replace HK := am (KeepBut.trans (kh_ HK.out) (KeepBut.of_below hb g none) (.inl rfl)); have NB0_357 := am ((by rw [hg]; exact Nat.ne_of_lt (IsS67.lt (show IsS67 w0 _ g s0_0 s0_1 s0_2 from i67_ HI0.out)) : g ≠ gb357)); have NB357_0 := am ((by rw [hg]; exact Nat.ne_of_gt (IsS67.lt (show IsS67 w0 _ g s0_0 s0_1 s0_2 from i67_ HI0.out)) : gb357 ≠ g)); replace HI0 := am (IsS67.below (i67_ HI0.out) hb); clear hb hbox hg) | ((with_reducible refine gate_dst (N := 6) rfl ?_); refine bx_ 6 #[.int .i64 0, .int .i64 0, .int .i64 0, .int .i64 0, .int .i64 0] 89 ?_; intro gb358 hg w11 hbox hb; replace HB := am (below_step (hb_ HB.out) hb); have BK358 := am (hbox); have GW358 := am ((by rw [hg]; exact (keep_size (w := w) (g := g) (row := none) (kh_ HK.out)) : w.heap.size ≤ gb358)); have GE358 := am ((Nat.le_trans HW0.out (by rw [hg]; exact (keep_size (w := w) (g := g) (row := none) (kh_ HK.out)) : w.heap.size ≤ gb358) : w0.heap.size ≤ gb358)); replace HK := am (KeepBut.trans (kh_ HK.out) (KeepBut.of_below hb g none) (.inl rfl)); have NB357_358 := nl_ hg BK357; have NB358_357 := ng_ hg BK357; replace BK357 := kb_ BK357 hb; have NB0_358 := am ((by rw [hg]; exact Nat.ne_of_lt (IsS67.lt (show IsS67 w0 _ g s0_0 s0_1 s0_2 from i67_ HI0.out)) : g ≠ gb358)); have NB358_0 := am ((by rw [hg]; exact Nat.ne_of_gt (IsS67.lt (show IsS67 w0 _ g s0_0 s0_1 s0_2 from i67_ HI0.out)) : gb358 ≠ g)); replace HI0 := am (IsS67.below (i67_ HI0.out) hb); clear hb hbox hg; have hnb12 := NB357_358.out; have hnc12 := NB358_357.out; have hnb13 := NB357_0.out; have hnc13 := NB0_357.out; obtain ⟨hcz14_0, hcz14_1, hfz14_0, hfz14_1⟩ := cz2_ BK357.out) | ((with_reducible refine gate_callee (f := 57) rfl ?_); refine gm_ (some 11) Try.func57 #[.agg #[.int .i64 a1_0, .int .i64 a1_1]] rfl ?_; (with_reducible refine (spec_NodeCount.calls a1_0 a1_1 t359 _ A4.out).mono ?_); rintro e w15 ⟨rfl, hb⟩; refine ⟨_, rfl, ?_⟩; replace BK357 := kb_ BK357 hb; replace BK358 := kb_ BK358 hb; replace HK := am (KeepBut.trans (kh_ HK.out) (KeepBut.of_below hb g none) (.inl rfl)); replace HB := am (below_step (hb_ HB.out) hb); replace HI0 := am (IsS67.below (i67_ HI0.out) hb); (try clear hb)) | ((with_reducible refine gate_callee (f := 17) rfl ?_); refine gm_ (some 14) Try.func17 #[.pointer (some ⟨g, 0, none⟩), .int .i64 t359] rfl ?_; (with_reducible refine (spec_l01Below.calls g s0_0 s0_1 s0_2 t359 t360 t361 t362 w0 _ ?side1 ?side2 A5.out).mono ?_); (case side1 => exact i67_ HI0.out); (case side2 => exact hb_ HB.out); rintro e w16 ⟨rfl, hi, hb, hk⟩; refine ⟨_, rfl, ?_⟩; replace BK357 := am (KeepBut.blk hk (g' := gb357) (o := .cells #[.int .i64 a1_0, .int .i64 a1_1] 25 (0, 0)) (bq_ BK357.out) NB357_0.out (by simp)); replace BK358 := am (KeepBut.blk hk (g' := gb358) (o := .cells #[.int .i64 0, .int .i64 0, .int .i64 0, .int .i64 0, .int .i64 0] 89 (0, 0)) (bq_ BK358.out) NB358_0.out (by simp)); replace HK := am (KeepBut.trans (kh_ HK.out) hk (.inl rfl)); replace HB := am (hb); replace HI0 := am (hi); (try clear hb)) | ((with_reducible refine gate_callee (f := 17) rfl ?_); refine gm_ (some 20) Try.func17 #[.pointer (some ⟨g, 0, none⟩), .int .i64 (wrap64 (t359 - 1))] rfl ?_; (with_reducible refine (spec_l01Below.calls g s0_0 t361 t362 (wrap64 (t359 - 1)) t363 t364 t365 w0 _ ?side1 ?side2 A6.out).mono ?_); (case side1 => exact i67_ HI0.out); (case side2 => exact hb_ HB.out); rintro e w17 ⟨rfl, hi, hb, hk⟩; refine ⟨_, rfl, ?_⟩; replace BK357 := am (KeepBut.blk hk (g' := gb357) (o := .cells #[.int .i64 a1_0, .int .i64 a1_1] 25 (0, 0)) (bq_ BK357.out) NB357_0.out (by simp)); replace BK358 := am (KeepBut.blk hk (g' := gb358) (o := .cells #[.int .i64 0, .int .i64 0, .int .i64 0, .int .i64 0, .int .i64 0] 89 (0, 0)) (bq_ BK358.out) NB358_0.out (by simp)); replace HK := am (KeepBut.trans (kh_ HK.out) hk (.inl rfl)); replace HB := am (hb); replace HI0 := am (hi); (try clear hb)) | ((with_reducible refine gate_callee (f := 17) rfl ?_); refine gm_ (some 28) Try.func17 #[.pointer (some ⟨g, 0, none⟩), .int .i64 2] rfl ?_; (with_reducible refine (spec_l01Below.calls g s0_0 t364 t365 2 t366 t367 t368 w0 _ ?side1 ?side2 A8.out).mono ?_); (case side1 => exact i67_ HI0.out); (case side2 => exact hb_ HB.out); rintro e w18 ⟨rfl, hi, hb, hk⟩; refine ⟨_, rfl, ?_⟩; replace BK357 := am (KeepBut.blk hk (g' := gb357) (o := .cells #[.int .i64 a1_0, .int .i64 a1_1] 25 (0, 0)) (bq_ BK357.out) NB357_0.out (by simp)); replace BK358 := am (KeepBut.blk hk (g' := gb358) (o := .cells #[.int .i64 0, .int .i64 0, .int .i64 0, .int .i64 0, .int .i64 0] 89 (0, 0)) (bq_ BK358.out) NB358_0.out (by simp)); replace HK := am (KeepBut.trans (kh_ HK.out) hk (.inl rfl)); replace HB := am (hb); replace HI0 := am (hi); (try clear hb)) | ((with_reducible refine gate_callee (f := 17) rfl ?_); refine gm_ (some 30) Try.func17 #[.pointer (some ⟨g, 0, none⟩), .int .i64 5] rfl ?_; (with_reducible refine (spec_l01Below.calls g s0_0 t367 t368 5 t369 t370 t371 w0 _ ?side1 ?side2 A9.out).mono ?_); (case side1 => exact i67_ HI0.out); (case side2 => exact hb_ HB.out); rintro e w19 ⟨rfl, hi, hb, hk⟩; refine ⟨_, rfl, ?_⟩; replace BK357 := am (KeepBut.blk hk (g' := gb357) (o := .cells #[.int .i64 a1_0, .int .i64 a1_1] 25 (0, 0)) (bq_ BK357.out) NB357_0.out (by simp)); replace BK358 := am (KeepBut.blk hk (g' := gb358) (o := .cells #[.int .i64 0, .int .i64 0, .int .i64 0, .int .i64 0, .int .i64 0] 89 (0, 0)) (bq_ BK358.out) NB358_0.out (by simp)); replace HK := am (KeepBut.trans (kh_ HK.out) hk (.inl rfl)); replace HB := am (hb); replace HI0 := am (hi); (try clear hb); have hnb20 := NB358_0.out; have hnc20 := NB0_358.out; obtain ⟨hcz21_0, hcz21_1, hcz21_2, hcz21_3, hcz21_4, hfz21_0, hfz21_1, hfz21_2, hfz21_3, hfz21_4⟩ := cz5_ BK358.out))
  refine bodyPost_ret (results_cell_row rfl _ _ gb358 89 #[.int .i64 a2, .int .i64 t360, .int .i64 (Int.tmod (wrap64 ((wrap64 (t360 + 1)) + t363)) t359), .int .i64 t366, .int .i64 (wrap64 (1 + t369))] (0, 0) _ rfl (by (with_reducible repeat (first | refine blk_drewN ?_ _ | refine blk_drew ?_ | refine blk_alloc ?_ _)); refine blk_put (cs := #[.int .i64 a2, .int .i64 t360, .int .i64 (Int.tmod (wrap64 ((wrap64 (t360 + 1)) + t363)) t359), .int .i64 t366, .int .i64 0]) ?_ 4 _ rfl; (with_reducible repeat (first | refine blk_drewN ?_ _ | refine blk_drew ?_ | refine blk_alloc ?_ _)); refine blk_put (cs := #[.int .i64 a2, .int .i64 t360, .int .i64 (Int.tmod (wrap64 ((wrap64 (t360 + 1)) + t363)) t359), .int .i64 0, .int .i64 0]) ?_ 3 _ rfl; (with_reducible repeat (first | refine blk_drewN ?_ _ | refine blk_drew ?_ | refine blk_alloc ?_ _)); refine blk_put (cs := #[.int .i64 a2, .int .i64 t360, .int .i64 0, .int .i64 0, .int .i64 0]) ?_ 2 _ rfl; (with_reducible repeat (first | refine blk_drewN ?_ _ | refine blk_drew ?_ | refine blk_alloc ?_ _)); refine blk_put (cs := #[.int .i64 a2, .int .i64 0, .int .i64 0, .int .i64 0, .int .i64 0]) ?_ 1 _ rfl; (with_reducible repeat (first | refine blk_drewN ?_ _ | refine blk_drew ?_ | refine blk_alloc ?_ _)); refine blk_put (cs := #[.int .i64 0, .int .i64 0, .int .i64 0, .int .i64 0, .int .i64 0]) ?_ 0 _ rfl; (with_reducible repeat (first | refine blk_drewN ?_ _ | refine blk_drew ?_ | refine blk_alloc ?_ _)); exact BK358.out) Try.underlying89 rfl (by kernel_rfl)) rfl ?_
  exact ⟨fin_, i67_ HI0.out, hb_ HB.out, kh_ HK.out⟩
def spec_l16Packets.l0 : Nat → List (S89) → Int → List Int → Int → Int → Int → Int → Option ((List (S89)) × Int × Int)
 | 0, _, _, _, _, _, _, _ => none
 | k + 1, x5, x6, x1000, x1001, x1002, x373000, x373001 => (spec_l01Below.f x1000 x1001 x1002 7).bind fun bt376 => (if x6 < bt376.1 then ((spec_l14Packet.f x1000 bt376.2.1 bt376.2.2 x373000 x373001 (wrap64 (x6 + 1))).bind fun bt379 => (if x5.length < 3518437208883 then (spec_l16Packets.l0 k (x5 ++ [(⟨bt379.1, bt379.2.1, bt379.2.2.1, bt379.2.2.2.1, bt379.2.2.2.2.1⟩ : S89)]) (wrap64 (x6 + 1)) x1000 bt379.2.2.2.2.2.1 bt379.2.2.2.2.2.2 x373000 x373001) else (none))) else (some (x5, bt376.2.1, bt376.2.2)))
def spec_l16Packets.f (k : Nat) (s0_0 : List Int) (s0_1 : Int) (s0_2 : Int) (a1_0 : Int) (a1_1 : Int) : Option ((List (S89)) × Int × Int) := spec_l16Packets.l0 k (([] : List (S89))) 0 s0_0 s0_1 s0_2 a1_0 a1_1
theorem spec_l16Packets.calls (k : Nat) (g : Nat) (s0_0 : List Int) (s0_1 : Int) (s0_2 : Int) (a1_0 : Int) (a1_1 : Int) (r1 : List (S89)) (r2 : Int) (r3 : Int) (w0 w : World) (hI : IsS67 w0 w g s0_0 s0_1 s0_2) (hB : Below w0.heap.size w0 w) (h : spec_l16Packets.f k s0_0 s0_1 s0_2 a1_0 a1_1 = some (r1, r2, r3)) :
  Calls Try.prog 34 #[.pointer (some ⟨g, 0, none⟩), .agg #[.int .i64 a1_0, .int .i64 a1_1]] w fun e w' => ∃ v0_ : Value, e = .returned (v0_) ∧ Kd.R k89 89 w' w.heap.size (fun _ => True) v0_ r1 ∧ IsS67 w0 w' g s0_0 r2 r3 ∧ Below w0.heap.size w0 w' ∧ KeepBut w w' g none := by
 have hu25 := Try.underlying25
 have HI0 := am hI
 have HK := am (KeepBut.refl w g none)
 have HL := am hB.size
 clear hI
 have HW0 := am hB.size
 have HB := am hB
 clear hB
 have H : (spec_l16Packets.l0 k (([] : List (S89))) 0 s0_0 s0_1 s0_2 a1_0 a1_1) = some (r1, r2, r3) := h
 clear h
 obtain ⟨y373, hy373⟩ : ∃ y_ : List (S89), y_ = (([] : List (S89))) := ⟨_, rfl⟩
 replace H : (spec_l16Packets.l0 k y373 0 s0_0 s0_1 s0_2 a1_0 a1_1) = some (r1, r2, r3) := ry_ hy373 H
 have Ny373 := am hy373
 clear hy373
 have H' := am H
 clear H
 go_enter Try.func34, Try.ntmps34
 go_wp2_with (first | ((with_reducible refine gate_dst (N := 3) rfl ?_); refine bx_ 3 #[.int .i64 a1_0, .int .i64 a1_1] 25 ?_; intro gb372 hg w3 hbox hb; replace HB := am (below_step (hb_ HB.out) hb); have BK372 := am (hbox); have GW372 := am ((by rw [hg]; exact (keep_size (w := w) (g := g) (row := none) (kh_ HK.out)) : w.heap.size ≤ gb372)); have GE372 := am ((Nat.le_trans HW0.out (by rw [hg]; exact (keep_size (w := w) (g := g) (row := none) (kh_ HK.out)) : w.heap.size ≤ gb372) : w0.heap.size ≤ gb372)); replace HK := am (KeepBut.trans (kh_ HK.out) (KeepBut.of_below hb g none) (.inl rfl)); have NB0_372 := am ((by rw [hg]; exact Nat.ne_of_lt (IsS67.lt (show IsS67 w0 _ g s0_0 s0_1 s0_2 from i67_ HI0.out)) : g ≠ gb372)); have NB372_0 := am ((by rw [hg]; exact Nat.ne_of_gt (IsS67.lt (show IsS67 w0 _ g s0_0 s0_1 s0_2 from i67_ HI0.out)) : gb372 ≠ g)); replace HI0 := am (IsS67.below (i67_ HI0.out) hb); clear hb hbox hg) | ((with_reducible refine gate_dst (N := 7) rfl ?_); refine Kd.R_lit k89 _ 89 ?hg (N := 7) ?hd (xs := ([] : List (S89))) (inner := []) (ok := fun _ => True) (okp := fun _ => True) ?hr ?hp (fun _ hk => hk) trivial (Below.refl _ _) (Nat.le_refl _) (by simp) ?_; (case hd => rfl); (case hg => rfl); (case hr => first | (go_simp; done) | (go_simp; rfl)); (case hp => exact (Reps.none _ _)); intro v374 w4 ho5 hb hg_ hnew_; clear hg_ hnew_; (first | rw [← Ny373.out] at ho5 | (simp only [Int.reduceToNat] at ho5; rw [← Ny373.out] at ho5)); have HO375 := am (Kd.R_lower ho5 (keep_size (w := w) (g := g) (row := none) (kh_ HK.out))); replace BK372 := kb_ BK372 hb; replace HK := am (KeepBut.trans (kh_ HK.out) (KeepBut.of_below hb g none) (.inl rfl)); replace HB := am (below_step (hb_ HB.out) hb); replace HI0 := am (IsS67.below (i67_ HI0.out) hb); clear hb ho5))
 go_loopg [5, 6] k (fun kq v5 v6 w' => ∃ (x5_1 : List (S89)) (x6_1 : Int) (x1001_1 : Int) (x1002_1 : Int), v6 = .int .i64 x6_1 ∧ Aside0 (spec_l16Packets.l0 kq x5_1 x6_1 s0_0 x1001_1 x1002_1 a1_0 a1_1 = some (r1, r2, r3)) ∧ Aside0 (kq ≤ k) ∧ Aside0 (Kd.R k89 89 w' w.heap.size (fun _ => True) v5 x5_1) ∧ Aside0 (w'.heap[gb372]? = some (.cells #[.int .i64 a1_0, .int .i64 a1_1] 25 (0, 0))) ∧ Aside0 (IsS67 w0 w' g s0_0 x1001_1 x1002_1) ∧ Aside0 (KeepBut w w' g none) ∧ Aside0 (Below w0.heap.size w0 w'))
 case atStart => exact ⟨(y373), (0), (s0_1), (s0_2), ef_, H', ⟨Nat.le_refl _⟩, ⟨ra_ HO375.out⟩, ⟨bq_ BK372.out⟩, ⟨i67_ HI0.out⟩, ⟨kh_ HK.out⟩, ⟨hb_ HB.out⟩⟩
 clear H'
 obtain ⟨x5_1, x6_1, x1001_1, x1002_1, rfl, HA, HK1, HO_5, BK372, HI0, HK, HB⟩ := hrel
 obtain _ | k1 := gk
 ·exact absurd HA.out (by simp [spec_l16Packets.l0])
 have H := HA.out
 clear HA
 simp only [spec_l16Packets.l0] at H
 obtain ⟨⟨t376, t377, t378⟩, A6, H⟩ := bi_ H
 try dsimp only at H
 by_cases c7 : x6_1 < t376
 rotate_left
 ·rw [if_neg c7] at H
  have c7b0 : decide (x6_1 < t376) = false := decide_eq_false c7
  clear c7
  simp only [Option.some.injEq, Prod.mk.injEq] at H
  obtain ⟨rfl, rfl, rfl⟩ := H
  go_wp2_with (first | ((with_reducible refine gate_callee (f := 17) rfl ?_); refine gm_ (some 10) Try.func17 #[.pointer (some ⟨g, 0, none⟩), .int .i64 7] rfl ?_; (with_reducible refine (spec_l01Below.calls g s0_0 x1001_1 x1002_1 7 t376 t377 t378 w0 _ ?side1 ?side2 A6.out).mono ?_); (case side1 => exact i67_ HI0.out); (case side2 => exact hb_ HB.out); rintro e w15 ⟨rfl, hi, hb, hk⟩; refine ⟨_, rfl, ?_⟩; replace HO_5 := am (Kd.R_mono (Kd.R_keep (IsS67.apart (show IsS67 w0 _ g s0_0 x1001_1 x1002_1 from i67_ HI0.out) (ra_ HO_5.out) (by decide)) hk (fun _ h => h.2)) (fun _ h => h.1)); replace BK372 := am (KeepBut.blk hk (g' := gb372) (o := .cells #[.int .i64 a1_0, .int .i64 a1_1] 25 (0, 0)) (bq_ BK372.out) NB372_0.out (by simp)); replace HK := am (KeepBut.trans (kh_ HK.out) hk (.inl rfl)); replace HB := am (hb); replace HI0 := am (hi); (try clear hb)))
  go_ret
  exact ⟨_, fin_, ra_ HO_5.out, i67_ HI0.out, hb_ HB.out, kh_ HK.out⟩
 rw [if_pos c7] at H
 have c7b0 : decide (x6_1 < t376) = true := decide_eq_true c7
 clear c7
 obtain ⟨⟨t379, t380, t381, t382, t383, t384, t385⟩, A8, H⟩ := bi_ H
 try dsimp only at H
 by_cases c9 : x5_1.length < 3518437208883
 rotate_left
 ·rw [if_neg c9] at H
  exact absurd H (by simp)
 rw [if_pos c9] at H
 have LMc9 := am c9
 clear c9
 obtain ⟨y386, hy386⟩ : ∃ y_ : List (S89), y_ = (x5_1 ++ [(⟨t379, t380, t381, t382, t383⟩ : S89)]) := ⟨_, rfl⟩
 replace H : (spec_l16Packets.l0 k1 y386 (wrap64 (x6_1 + 1)) s0_0 t384 t385 a1_0 a1_1) = some (r1, r2, r3) := ry_ hy386 H
 have Ny386 := am hy386
 clear hy386
 have H' := am H
 clear H
 go_wp2_with (first | ((with_reducible refine gate_callee (f := 17) rfl ?_); refine gm_ (some 10) Try.func17 #[.pointer (some ⟨g, 0, none⟩), .int .i64 7] rfl ?_; (with_reducible refine (spec_l01Below.calls g s0_0 x1001_1 x1002_1 7 t376 t377 t378 w0 _ ?side1 ?side2 A6.out).mono ?_); (case side1 => exact i67_ HI0.out); (case side2 => exact hb_ HB.out); rintro e w10 ⟨rfl, hi, hb, hk⟩; refine ⟨_, rfl, ?_⟩; replace HO_5 := am (Kd.R_mono (Kd.R_keep (IsS67.apart (show IsS67 w0 _ g s0_0 x1001_1 x1002_1 from i67_ HI0.out) (ra_ HO_5.out) (by decide)) hk (fun _ h => h.2)) (fun _ h => h.1)); replace BK372 := am (KeepBut.blk hk (g' := gb372) (o := .cells #[.int .i64 a1_0, .int .i64 a1_1] 25 (0, 0)) (bq_ BK372.out) NB372_0.out (by simp)); replace HK := am (KeepBut.trans (kh_ HK.out) hk (.inl rfl)); replace HB := am (hb); replace HI0 := am (hi); (try clear hb); have hnb11 := NB372_0.out; have hnc11 := NB0_372.out; obtain ⟨hcz12_0, hcz12_1, hfz12_0, hfz12_1⟩ := cz2_ BK372.out) | ((with_reducible refine gate_callee (f := 65) rfl ?_); refine gm_ (some 19) Try.func65 #[.pointer (some ⟨g, 0, none⟩), .agg #[.int .i64 a1_0, .int .i64 a1_1], .int .i64 (wrap64 (x6_1 + 1))] rfl ?_; (with_reducible refine (spec_l14Packet.calls g s0_0 t377 t378 a1_0 a1_1 (wrap64 (x6_1 + 1)) t379 t380 t381 t382 t383 t384 t385 w0 _ ?side1 ?side2 A8.out).mono ?_); (case side1 => exact i67_ HI0.out); (case side2 => exact hb_ HB.out); rintro e w13 ⟨rfl, hi, hb, hk⟩; refine ⟨_, rfl, ?_⟩; replace HO_5 := am (Kd.R_mono (Kd.R_keep (IsS67.apart (show IsS67 w0 _ g s0_0 t377 t378 from i67_ HI0.out) (ra_ HO_5.out) (by decide)) hk (fun _ h => h.2)) (fun _ h => h.1)); replace BK372 := am (KeepBut.blk hk (g' := gb372) (o := .cells #[.int .i64 a1_0, .int .i64 a1_1] 25 (0, 0)) (bq_ BK372.out) NB372_0.out (by simp)); replace HK := am (KeepBut.trans (kh_ HK.out) hk (.inl rfl)); replace HB := am (hb); replace HI0 := am (hi); (try clear hb)) | ((with_reducible refine gate_builtin (b := .append) (xs := #[.tmp 14, .tmp 20]) rfl ?_); at_builtin; refine Kd.R_append k89 w.heap.size rfl (.tmp 14) (.tmp 20) 63 89 (.agg #[(.int .i64 0), (.int .i64 0), (.int .i64 0), (.int .i64 0), (.int .i64 0)]) 40 rfl Try.underlying63 info89 rfl (by decide) (by omega) u5 x5_1 (⟨t379, t380, t381, t382, t383⟩ : S89) [.int .i64 t379, .int .i64 t380, .int .i64 t381, .int .i64 t382, .int .i64 t383] (fun _ => True) (fun _ => False) rfl rfl ?aP (fun _ hk => hk.elim) ?aF ?aO (Below.refl _ _) ?aS ?aL ?_; (case aP => exact k89_mkM _ _ _ (⟨t379, t380, t381, t382, t383⟩ : S89)); (case aF => exact (fun _ _ => trivial)); (case aO => exact (ra_ HO_5.out)); (case aS => exact (keep_size (w := w) (g := g) (row := none) (kh_ HK.out))); (case aL => have := LMc9.out; omega); intro v387 w14 ho hb hg hat; rw [← Ny386.out] at ho; have n0_ := am (blk_grown (g := gb372) (o := .cells #[.int .i64 a1_0, .int .i64 a1_1] 25 (0, 0)) (bq_ BK372.out) hg (Kd.R_ne HO_5.out BK372.out (by decide))); have n1_ := am (IsS67.grown (i67_ HI0.out) hg (IsS67.own_ne HI0.out HO_5.out (by decide))); have n2_ := am (below_weaken (hb_ HB.out) HL.out hb); have n3_ := am (KeepBut.trans (kh_ HK.out) (KeepBut.of_grown hg g) (Kd.R_base2 HO_5.out)); have n4_ := am (ho); clear BK372; clear HI0; clear HB; clear HK; clear HO_5; have BK372 := n0_; have HI0 := n1_; have HB := n2_; have HK := n3_; have HO388 := n4_; clear n0_ n1_ n2_ n3_ n4_; clear ho hb hg hat))
 go_roundg k1
 case measure => have := HK1.out; omega
 case rel => exact ⟨(y386), (wrap64 (x6_1 + 1)), (t384), (t385), ef_, H', ⟨by have := HK1.out; omega⟩, ⟨ra_ HO388.out⟩, ⟨bq_ BK372.out⟩, ⟨i67_ HI0.out⟩, ⟨kh_ HK.out⟩, ⟨hb_ HB.out⟩⟩
def spec_l15Sum.l0 : Nat → List (List (S72)) → Int → Int → Option (Int)
 | 0, _, _, _ => none
 | k + 1, x0, x3, x4 => if x4 < (x0.length : Int) then (if 0 ≤ x4 then (spec_l15Sum.l0 k x0 (wrap64 (x3 + ((rd_L4 x0 x4).length : Int))) (wrap64 (x4 + 1))) else (none)) else (some x3)
def spec_l15Sum.f (k : Nat) (l0 : List (List (S72))) : Option (Int) := spec_l15Sum.l0 k l0 0 0
theorem spec_l15Sum.calls (k : Nat) (A0 : Option Addr) (c0 : Nat) (l0 : List (List (S72))) (r : Int) (w : World) (hr0 : Kd.C (Kd.slice 72 k72) w A0 l0.length l0) (hc0 : l0.length ≤ c0) (h : spec_l15Sum.f k l0 = some r) :
  Calls Try.prog 87 #[.slice A0 l0.length c0] w fun e w' => e = .returned (.int .i64 r) ∧ Drawn0 w w' := by
 have HR0 := am hr0
 have HC0 := am hc0
 clear hr0 hc0
 have H : (spec_l15Sum.l0 k l0 0 0) = some r := h
 clear h
 have H' := am H
 clear H
 go_enter Try.func87, Try.ntmps87
 go_wp2
 go_loopg [3, 4] k (fun kq v3 v4 w' => ∃ (x3_1 : Int) (x4_1 : Int), v3 = .int .i64 x3_1 ∧ v4 = .int .i64 x4_1 ∧ Aside0 (spec_l15Sum.l0 kq l0 x3_1 x4_1 = some r) ∧ Aside0 (kq ≤ k) ∧ Drawn0 w w')
 case atStart => exact ⟨(0), (0), ef_, ef_, H', ⟨Nat.le_refl _⟩, by repeat (first | exact Drawn0.refl _ | apply Drawn0.step)⟩
 clear H'
 obtain ⟨x3_1, x4_1, rfl, rfl, HA, HK1, ⟨m1, rfl⟩⟩ := hrel
 obtain _ | k1 := gk
 ·exact absurd HA.out (by simp [spec_l15Sum.l0])
 have H := HA.out
 clear HA
 simp only [spec_l15Sum.l0] at H
 by_cases c2 : x4_1 < (l0.length : Int)
 rotate_left
 ·rw [if_neg c2] at H
  have c2b0 : decide (x4_1 < (l0.length : Int)) = false := decide_eq_false c2
  clear c2
  obtain rfl := Option.some.inj H
  go_wp2
  go_ret
  exact ⟨by first | rfl | (simp; done) | (simp [*]; done), by repeat (first | exact Drawn0.refl _ | apply Drawn0.step)⟩
 rw [if_pos c2] at H
 have c2b0 : decide (x4_1 < (l0.length : Int)) = true := decide_eq_true c2
 clear c2
 by_cases c3 : 0 ≤ x4_1
 rotate_left
 ·rw [if_neg c3] at H
  exact absurd H (by simp)
 rw [if_pos c3] at H
 have c3b0 : decide (0 ≤ x4_1) = true := decide_eq_true c3
 clear c3
 have H' := am H
 clear H
 have p389 : 0 ≤ (x4_1 : Int) := of_decide_eq_true dg_
 have q389 : x4_1 < (l0.length : Int) := of_decide_eq_true dg_
 obtain ⟨ad389, A389_0, c389_0, e389, hx389_0, hl389_0, hi389_0⟩ := at_L4 HR0.out x4_1 p389 q389
 cases e389
 have HR389_0 := am hi389_0
 have HC389_0 := am hl389_0
 clear hi389_0 hl389_0
 replace p389 := eq_true p389
 replace q389 := eq_true q389
 go_wp2
 go_roundg k1
 case measure => have := HK1.out; omega
 case rel => exact ⟨(wrap64 (x3_1 + ((rd_L4 l0 x4_1).length : Int))), (wrap64 (x4_1 + 1)), ef_, ef_, H', ⟨by have := HK1.out; omega⟩, by repeat (first | exact Drawn0.refl _ | apply Drawn0.step)⟩
def spec_l20Idle.f (k : Nat) (a0_0 : Int) (a0_1 : Int) (l0_2 : List Int) (l0_3 : List Int) (l0_4 : List Int) (l0_5 : List (List (S72))) (l0_6 : List Int) (l0_7 : List Int) (l0_8 : List (List (S72))) (l0_9 : List (List (S72))) (a0_10 : Int) : Option (Bool) := (spec_l15Sum.f k l0_5).bind fun t391 => (if t391 = 0 then ((spec_l15Sum.f k l0_8).bind fun t392 => (some (t392 == 0))) else (some false))
theorem spec_l20Idle.e0 {P : Prop} (h : P := by
 go_enter Try.func66, Try.ntmps66
 go_wp2_with (first | ((with_reducible refine gate_dst (N := 1) rfl ?_); refine bx_ 1 #[.int .i64 a0_0, .int .i64 a0_1, .slice A0_2 l0_2.length c0_2, .slice A0_3 l0_3.length c0_3, .slice A0_4 l0_4.length c0_4, .slice A0_5 l0_5.length c0_5, .slice A0_6 l0_6.length c0_6, .slice A0_7 l0_7.length c0_7, .slice A0_8 l0_8.length c0_8, .slice A0_9 l0_9.length c0_9, .int .i64 a0_10] 35 ?_; intro gb390 hg w_0 hbox hb; have BK390 := am (hbox); have GW390 := gw_ hg HB; replace HB := h9_ HB hb; clear hb hbox hg; obtain ⟨hcz_0, hcz_1, hcz_2, hcz_3, hcz_4, hcz_5, hcz_6, hcz_7, hcz_8, hcz_9, hcz_10, hfz_0, hfz_1, hfz_2, hfz_3, hfz_4, hfz_5, hfz_6, hfz_7, hfz_8, hfz_9, hfz_10⟩ := cz11_ BK390.out) | ((with_reducible refine gate_callee (f := 87) rfl ?_); refine gm_ (some 5) Try.func87 #[.slice A0_5 l0_5.length c0_5] rfl ?_; (with_reducible refine (spec_l15Sum.calls k _ _ l0_5 t391 _ ?side1 HC0_5.out A2.out).mono ?_); (case side1 => exact cb_ HR0_5.out HB.out); rintro e w' ⟨rfl, ⟨nd, rfl⟩⟩; refine ⟨_, rfl, ?_⟩) | (go_at_call 87; (with_reducible refine (spec_l15Sum.calls k _ _ l0_8 t392 _ ?side1 HC0_8.out A4.out).mono ?_); (case side1 => exact cb_ HR0_8.out HB.out); rintro e w' ⟨rfl, ⟨nd, rfl⟩⟩))
 go_ret
 exact ⟨fin_, bb_ HB.out⟩) : P := h
theorem spec_l20Idle.calls (k : Nat) (a0_0 : Int) (a0_1 : Int) (A0_2 : Option Addr) (c0_2 : Nat) (l0_2 : List Int) (A0_3 : Option Addr) (c0_3 : Nat) (l0_3 : List Int) (A0_4 : Option Addr) (c0_4 : Nat) (l0_4 : List Int) (A0_5 : Option Addr) (c0_5 : Nat) (l0_5 : List (List (S72))) (A0_6 : Option Addr) (c0_6 : Nat) (l0_6 : List Int) (A0_7 : Option Addr) (c0_7 : Nat) (l0_7 : List Int) (A0_8 : Option Addr) (c0_8 : Nat) (l0_8 : List (List (S72))) (A0_9 : Option Addr) (c0_9 : Nat) (l0_9 : List (List (S72))) (a0_10 : Int) (r : Bool) (w : World) (hr0_2 : Kd.C (Kd.int .i64) w A0_2 l0_2.length l0_2) (hc0_2 : l0_2.length ≤ c0_2) (hr0_3 : Kd.C (Kd.int .i64) w A0_3 l0_3.length l0_3) (hc0_3 : l0_3.length ≤ c0_3) (hr0_4 : Kd.C (Kd.int .i64) w A0_4 l0_4.length l0_4) (hc0_4 : l0_4.length ≤ c0_4) (hr0_5 : Kd.C (Kd.slice 72 k72) w A0_5 l0_5.length l0_5) (hc0_5 : l0_5.length ≤ c0_5) (hr0_6 : Kd.C (Kd.int .i64) w A0_6 l0_6.length l0_6) (hc0_6 : l0_6.length ≤ c0_6) (hr0_7 : Kd.C (Kd.int .i64) w A0_7 l0_7.length l0_7) (hc0_7 : l0_7.length ≤ c0_7) (hr0_8 : Kd.C (Kd.slice 72 k72) w A0_8 l0_8.length l0_8) (hc0_8 : l0_8.length ≤ c0_8) (hr0_9 : Kd.C (Kd.slice 72 k72) w A0_9 l0_9.length l0_9) (hc0_9 : l0_9.length ≤ c0_9) (h : spec_l20Idle.f k a0_0 a0_1 l0_2 l0_3 l0_4 l0_5 l0_6 l0_7 l0_8 l0_9 a0_10 = some r) :
  Calls Try.prog 66 #[.agg #[.int .i64 a0_0, .int .i64 a0_1, .slice A0_2 l0_2.length c0_2, .slice A0_3 l0_3.length c0_3, .slice A0_4 l0_4.length c0_4, .slice A0_5 l0_5.length c0_5, .slice A0_6 l0_6.length c0_6, .slice A0_7 l0_7.length c0_7, .slice A0_8 l0_8.length c0_8, .slice A0_9 l0_9.length c0_9, .int .i64 a0_10]] w fun e w' => e = .returned (.bool r) ∧ Below w.heap.size w w' := by
 have hu35 := Try.underlying35
 obtain ⟨HR0_2, HC0_2, HR0_3, HC0_3, HR0_4, HC0_4, HR0_5, HC0_5, HR0_6, HC0_6, HR0_7, HC0_7, HR0_8, HC0_8, HR0_9, HC0_9⟩ := a16_ hr0_2 hc0_2 hr0_3 hc0_3 hr0_4 hc0_4 hr0_5 hc0_5 hr0_6 hc0_6 hr0_7 hc0_7 hr0_8 hc0_8 hr0_9 hc0_9; clear hr0_2 hc0_2 hr0_3 hc0_3 hr0_4 hc0_4 hr0_5 hc0_5 hr0_6 hc0_6 hr0_7 hc0_7 hr0_8 hc0_8 hr0_9 hc0_9
 have HB := am (Below.refl w.heap.size w)
 have H : ((spec_l15Sum.f k l0_5).bind fun t391 => (if t391 = 0 then ((spec_l15Sum.f k l0_8).bind fun t392 => (some (t392 == 0))) else (some false))) = some r := h
 clear h
 obtain ⟨t391, A2, H⟩ := bi_ H
 by_cases c3 : t391 = 0
 ·rw [if_pos c3] at H
  have c3b0 : (t391 == 0) = true := beq_iff_eq.mpr c3
  have c3b1 : (t391 != 0) = false := bne_eq_false_iff_eq.mpr c3
  clear c3
  obtain ⟨t392, A4, H⟩ := bi_ H
  obtain rfl := Option.some.inj H
  exact spec_l20Idle.e0
 ·rw [if_neg c3] at H
  have c3b0 : (t391 == 0) = false := beq_eq_false_iff_ne.mpr c3
  have c3b1 : (t391 != 0) = true := bne_iff_ne.mpr c3
  obtain rfl := Option.some.inj H
  exact spec_l20Idle.e0
end Go.Proofs.Yteiemoooelpdaaa.PFnCreditSum
-- thin
