/- Each function that the law comes to, as a plain function, with the proof that the call in the model gives what that function says (written by a program of this session out of the translation). No condition. -/
import Derived.Test.YtaofkfooijfjbaaPFnExactEnteringx0
import Derived.Test.YtaofkfooijfjbaaPFnExactEnteringx1
import Derived.Test.YtaofkfooijfjbaaPFnExactEnteringx2
import Derived.Test.YtaofkfooijfjbaaPFnExactEnteringx3
import Derived.Test.YtaofkfooijfjbaaPFnExactEnteringx4
import Derived.Test.YtaofkfooijfjbaaPFnExactEnteringx9
import Derived.Test.YtaofkfooijfjbaaPFnExactEnteringx13
namespace Go.Proofs.Ytaofkfooijfjbaa.PFnExactEntering
open Go.RowKit Go.Proofs.YtaofkfooijfjbaaW.PrintWords Go.Proofs.YtaofkfooijfjbaaW.PrintLast Go.Proofs.YtaofkfooijfjbaaW.PrintMore
attribute [local go_sem] max2_int min2_int max_two min_two max_three min_three max_four min_four   -- for this text's walks alone
set_option linter.unusedVariables false
set_option linter.unusedSimpArgs false

/-! ### impl_BufferAt: function 15 -/
def impl_BufferAt.f (a0 : Int) (a1 : Int) (a2 : Int) : Option (Int) := (impl_inside.f a0 0 15).bind fun t450 => (if t450 = true then ((impl_inside.f a1 0 4).bind fun t451 => (if t451 = true then ((impl_inside.f a2 0 1).bind fun t452 => (if t452 = true then (some (wrap64 ((wrap64 ((wrap64 ((wrap64 (5 * a0)) + a1)) * 2)) + a2))) else (some (-1)))) else (some (-1)))) else (some (-1)))
theorem impl_BufferAt.e0 {P : Prop} (h : P := by
 go_enter Try.func15, Try.ntmps15
 go_wp2_with (first | ((with_reducible refine gate_callee (f := 49) rfl ?_); refine gm_ (some 8) Try.func49 #[.int .i64 a0, .int .i64 0, .int .i64 15] rfl ?_; (with_reducible refine (impl_inside.calls a0 0 15 _ _ A4.out).mono ?_); rintro e w' ⟨rfl, ⟨nd, rfl⟩⟩; refine ⟨_, rfl, ?_⟩) | (go_at_call 49; (with_reducible refine (impl_inside.calls a1 0 4 _ _ A6.out).mono ?_); rintro e w' ⟨rfl, ⟨nd, rfl⟩⟩) | (go_at_call 49; (with_reducible refine (impl_inside.calls a2 0 1 _ _ A8.out).mono ?_); rintro e w' ⟨rfl, ⟨nd, rfl⟩⟩))
 go_ret
 exact ⟨by first | rfl | (simp; done) | (simp [*]; done), by repeat (first | exact Drawn0.refl _ | apply Drawn0.step)⟩) : P := h
set_option maxHeartbeats 8000000 in
set_option maxRecDepth 100000 in
theorem impl_BufferAt.calls (a0 : Int) (a1 : Int) (a2 : Int) (r : Int) (w : World) (h : impl_BufferAt.f a0 a1 a2 = some r) :
  Calls Try.prog 15 #[.int .i64 a0, .int .i64 a1, .int .i64 a2] w fun e w' => e = .returned (.int .i64 r) ∧ Drawn0 w w' := by
 have H : ((impl_inside.f a0 0 15).bind fun t450 => (if t450 = true then ((impl_inside.f a1 0 4).bind fun t451 => (if t451 = true then ((impl_inside.f a2 0 1).bind fun t452 => (if t452 = true then (some (wrap64 ((wrap64 ((wrap64 ((wrap64 (5 * a0)) + a1)) * 2)) + a2))) else (some (-1)))) else (some (-1)))) else (some (-1)))) = some r := h
 clear h
 replace H := Option.bind_eq_some_iff.mp H
 obtain ⟨t450, A40, H⟩ := H
 try dsimp only at H
 have A4 := Aside0.mk A40
 clear A40
 by_cases c5 : t450 = true
 ·subst c5
  rw [if_pos rfl] at H
  replace H := Option.bind_eq_some_iff.mp H
  obtain ⟨t451, A60, H⟩ := H
  try dsimp only at H
  have A6 := Aside0.mk A60
  clear A60
  by_cases c7 : t451 = true
  ·subst c7
   rw [if_pos rfl] at H
   replace H := Option.bind_eq_some_iff.mp H
   obtain ⟨t452, A80, H⟩ := H
   try dsimp only at H
   have A8 := Aside0.mk A80
   clear A80
   by_cases c9 : t452 = true
   ·subst c9
    rw [if_pos rfl] at H
    obtain rfl := Option.some.inj H
    exact impl_BufferAt.e0
   ·replace c9 := Bool.eq_false_iff.mpr c9
    subst c9
    rw [if_neg (show ¬ (false = true) by decide)] at H
    obtain rfl := Option.some.inj H
    exact impl_BufferAt.e0
  ·replace c7 := Bool.eq_false_iff.mpr c7
   subst c7
   rw [if_neg (show ¬ (false = true) by decide)] at H
   obtain rfl := Option.some.inj H
   exact impl_BufferAt.e0
 ·replace c5 := Bool.eq_false_iff.mpr c5
  subst c5
  rw [if_neg (show ¬ (false = true) by decide)] at H
  obtain rfl := Option.some.inj H
  exact impl_BufferAt.e0

/-- A state of type 37 at block g of W; what its slices lead to came in by w0. -/
def IsS37 (w0 W : World) (g : Nat) (f0 : Int) (f1 : Int) (f2 : List Int) (f3 : List Int) (f4 : List Int) (f5 : List (List (S112))) (f6 : List Int) (f7 : List Int) (f8 : List (List (S112))) (f9 : List (List (S112))) (f10 : Int) : Prop := ∃ A2 c2, ∃ A3 c3, ∃ A4 c4, ∃ A5 c5, ∃ A6 c6, ∃ A7 c7, ∃ A8 c8, ∃ A9 c9, W.heap[g]? = some (.cells #[.int .i64 f0, .int .i64 f1, .slice A2 f2.length c2, .slice A3 f3.length c3, .slice A4 f4.length c4, .slice A5 f5.length c5, .slice A6 f6.length c6, .slice A7 f7.length c7, .slice A8 f8.length c8, .slice A9 f9.length c9, .int .i64 f10] 37 (0, 0)) ∧ w0.heap.size ≤ g ∧ Kd.C (Kd.int .i64) w0 A2 f2.length f2 ∧ Kd.C (Kd.int .i64) w0 A3 f3.length f3 ∧ Kd.C (Kd.int .i64) w0 A4 f4.length f4 ∧ Kd.C (Kd.slice 112 k112) w0 A5 f5.length f5 ∧ Kd.C (Kd.int .i64) w0 A6 f6.length f6 ∧ Kd.C (Kd.int .i64) w0 A7 f7.length f7 ∧ Kd.C (Kd.slice 112 k112) w0 A8 f8.length f8 ∧ Kd.C (Kd.slice 112 k112) w0 A9 f9.length f9
theorem IsS37.grown {w0 W : World} {g : Nat} {f0 : Int} {f1 : Int} {f2 : List Int} {f3 : List Int} {f4 : List Int} {f5 : List (List (S112))} {f6 : List Int} {f7 : List Int} {f8 : List (List (S112))} {f9 : List (List (S112))} {f10 : Int} {W1 : World} {row : Option Nat} (h : IsS37 w0 W g f0 f1 f2 f3 f4 f5 f6 f7 f8 f9 f10) (hw : W.grownBy W1 row) (hne : some g ≠ row) : IsS37 w0 W1 g f0 f1 f2 f3 f4 f5 f6 f7 f8 f9 f10 := by
 obtain ⟨A2, c2, A3, c3, A4, c4, A5, c5, A6, c6, A7, c7, A8, c8, A9, c9, hb, hg, hr2, hr3, hr4, hr5, hr6, hr7, hr8, hr9⟩ := h
 exact ⟨A2, c2, A3, c3, A4, c4, A5, c5, A6, c6, A7, c7, A8, c8, A9, c9, blk_grown hb hw hne, hg, hr2, hr3, hr4, hr5, hr6, hr7, hr8, hr9⟩
theorem IsS37.own_neN {w0 W : World} {g : Nat} {f0 : Int} {f1 : Int} {f2 : List Int} {f3 : List Int} {f4 : List Int} {f5 : List (List (S112))} {f6 : List Int} {f7 : List Int} {f8 : List (List (S112))} {f9 : List (List (S112))} {f10 : Int} {α : Type} {d : Kd α} {e : Nat} {base : Nat} {ok : Nat → Prop} {v : Value} {xs : List α} (h : IsS37 w0 W g f0 f1 f2 f3 f4 f5 f6 f7 f8 f9 f10) (ho : Kd.N d e W base ok v xs) (ht : e ≠ 37) : some g ≠ v.ownBlock := by
 obtain ⟨A2, c2, A3, c3, A4, c4, A5, c5, A6, c6, A7, c7, A8, c8, A9, c9, hb, hg, hr2, hr3, hr4, hr5, hr6, hr7, hr8, hr9⟩ := h
 exact Kd.N_ne ho hb ht
theorem IsS37.fresh {w0 W : World} {g : Nat} {f0 : Int} {f1 : Int} {f2 : List Int} {f3 : List Int} {f4 : List Int} {f5 : List (List (S112))} {f6 : List Int} {f7 : List Int} {f8 : List (List (S112))} {f9 : List (List (S112))} {f10 : Int} (h : IsS37 w0 W g f0 f1 f2 f3 f4 f5 f6 f7 f8 f9 f10) : ∀ k, W.heap.size ≤ k → k ≠ g := by
 obtain ⟨A2, c2, A3, c3, A4, c4, A5, c5, A6, c6, A7, c7, A8, c8, A9, c9, hb, hg, hr2, hr3, hr4, hr5, hr6, hr7, hr8, hr9⟩ := h
 exact Kd.freshB hb
theorem IsS37.kept {w0 W : World} {g : Nat} {f0 : Int} {f1 : Int} {f2 : List Int} {f3 : List Int} {f4 : List Int} {f5 : List (List (S112))} {f6 : List Int} {f7 : List Int} {f8 : List (List (S112))} {f9 : List (List (S112))} {f10 : Int} {W1 : World} {S : Nat → Prop} (h : IsS37 w0 W g f0 f1 f2 f3 f4 f5 f6 f7 f8 f9 f10) (hk : Kept W W1 S) (hne : ¬ S g) : IsS37 w0 W1 g f0 f1 f2 f3 f4 f5 f6 f7 f8 f9 f10 := by
 obtain ⟨A2, c2, A3, c3, A4, c4, A5, c5, A6, c6, A7, c7, A8, c8, A9, c9, hb, hg, hr2, hr3, hr4, hr5, hr6, hr7, hr8, hr9⟩ := h
 exact ⟨A2, c2, A3, c3, A4, c4, A5, c5, A6, c6, A7, c7, A8, c8, A9, c9, blk_kept hb hk hne, hg, hr2, hr3, hr4, hr5, hr6, hr7, hr8, hr9⟩
theorem IsS37.below {w0 W : World} {g : Nat} {f0 : Int} {f1 : Int} {f2 : List Int} {f3 : List Int} {f4 : List Int} {f5 : List (List (S112))} {f6 : List Int} {f7 : List Int} {f8 : List (List (S112))} {f9 : List (List (S112))} {f10 : Int} {W1 : World} (h : IsS37 w0 W g f0 f1 f2 f3 f4 f5 f6 f7 f8 f9 f10) (hw : Below W.heap.size W W1) : IsS37 w0 W1 g f0 f1 f2 f3 f4 f5 f6 f7 f8 f9 f10 := h.grown (grown_of_below hw none) (by simp)
theorem IsS37.alloc {w0 W : World} {g : Nat} {f0 : Int} {f1 : Int} {f2 : List Int} {f3 : List Int} {f4 : List Int} {f5 : List (List (S112))} {f6 : List Int} {f7 : List Int} {f8 : List (List (S112))} {f9 : List (List (S112))} {f10 : Int} (h : IsS37 w0 W g f0 f1 f2 f3 f4 f5 f6 f7 f8 f9 f10) (o : Obj) : IsS37 w0 (W.alloc o) g f0 f1 f2 f3 f4 f5 f6 f7 f8 f9 f10 := h.below (below_alloc (Below.refl _ _) o)
theorem IsS37.drewN {w0 W : World} {g : Nat} {f0 : Int} {f1 : Int} {f2 : List Int} {f3 : List Int} {f4 : List Int} {f5 : List (List (S112))} {f6 : List Int} {f7 : List Int} {f8 : List (List (S112))} {f9 : List (List (S112))} {f10 : Int} (h : IsS37 w0 W g f0 f1 f2 f3 f4 f5 f6 f7 f8 f9 f10) (m : Nat) : IsS37 w0 (W.drewN m) g f0 f1 f2 f3 f4 f5 f6 f7 f8 f9 f10 := h
theorem IsS37.drew {w0 W : World} {g : Nat} {f0 : Int} {f1 : Int} {f2 : List Int} {f3 : List Int} {f4 : List Int} {f5 : List (List (S112))} {f6 : List Int} {f7 : List Int} {f8 : List (List (S112))} {f9 : List (List (S112))} {f10 : Int} (h : IsS37 w0 W g f0 f1 f2 f3 f4 f5 f6 f7 f8 f9 f10) : IsS37 w0 W.drew g f0 f1 f2 f3 f4 f5 f6 f7 f8 f9 f10 := h
theorem IsS37.at_ {w0 W : World} {g : Nat} {f0 : Int} {f1 : Int} {f2 : List Int} {f3 : List Int} {f4 : List Int} {f5 : List (List (S112))} {f6 : List Int} {f7 : List Int} {f8 : List (List (S112))} {f9 : List (List (S112))} {f10 : Int} {w' : World} {m : Nat} (hq : W.drewN m = w') (h : IsS37 w0 W g f0 f1 f2 f3 f4 f5 f6 f7 f8 f9 f10) : IsS37 w0 w' g f0 f1 f2 f3 f4 f5 f6 f7 f8 f9 f10 := by subst hq; exact IsS37.drewN h m
theorem IsS37.apart {w0 W : World} {g : Nat} {f0 : Int} {f1 : Int} {f2 : List Int} {f3 : List Int} {f4 : List Int} {f5 : List (List (S112))} {f6 : List Int} {f7 : List Int} {f8 : List (List (S112))} {f9 : List (List (S112))} {f10 : Int} {α : Type} {d : Kd α} {e : Nat} {base : Nat} {ok : Nat → Prop} {v : Value} {xs : List α} (h : IsS37 w0 W g f0 f1 f2 f3 f4 f5 f6 f7 f8 f9 f10) (ho : d.R e W base ok v xs) (ht : ∀ q, q ∈ e :: d.E → q ≠ 37) : d.R e W base (fun k => ok k ∧ k ≠ g) v xs := by
 obtain ⟨A2, c2, A3, c3, A4, c4, A5, c5, A6, c6, A7, c7, A8, c8, A9, c9, hb, hg, hr2, hr3, hr4, hr5, hr6, hr7, hr8, hr9⟩ := h
 exact Kd.R_types ho hb ht
theorem IsS37.own_ne {w0 W : World} {g : Nat} {f0 : Int} {f1 : Int} {f2 : List Int} {f3 : List Int} {f4 : List Int} {f5 : List (List (S112))} {f6 : List Int} {f7 : List Int} {f8 : List (List (S112))} {f9 : List (List (S112))} {f10 : Int} {α : Type} {d : Kd α} {e : Nat} {base : Nat} {ok : Nat → Prop} {v : Value} {xs : List α} (h : IsS37 w0 W g f0 f1 f2 f3 f4 f5 f6 f7 f8 f9 f10) (ho : d.R e W base ok v xs) (ht : e ≠ 37) : some g ≠ v.ownBlock := by
 obtain ⟨A2, c2, A3, c3, A4, c4, A5, c5, A6, c6, A7, c7, A8, c8, A9, c9, hb, hg, hr2, hr3, hr4, hr5, hr6, hr7, hr8, hr9⟩ := h
 exact Kd.R_ne ho hb ht
theorem IsS37.apartQ {w0 W : World} {g : Nat} {f0 : Int} {f1 : Int} {f2 : List Int} {f3 : List Int} {f4 : List Int} {f5 : List (List (S112))} {f6 : List Int} {f7 : List Int} {f8 : List (List (S112))} {f9 : List (List (S112))} {f10 : Int} {α : Type} {d : Kd α} {e : Nat} {base : Nat} {ok : Nat → Prop} {v : Value} {xs : List α} (h : IsS37 w0 W g f0 f1 f2 f3 f4 f5 f6 f7 f8 f9 f10) (ho : d.Q e W base ok v xs) (ht : ∀ q, q ∈ e :: d.E → q ≠ 37) : d.Q e W base (fun k => ok k ∧ k ≠ g) v xs := by
 obtain ⟨A2, c2, A3, c3, A4, c4, A5, c5, A6, c6, A7, c7, A8, c8, A9, c9, hb, hg, hr2, hr3, hr4, hr5, hr6, hr7, hr8, hr9⟩ := h
 exact Kd.Q_types ho hb ht
theorem IsS37.own_neQ {w0 W : World} {g : Nat} {f0 : Int} {f1 : Int} {f2 : List Int} {f3 : List Int} {f4 : List Int} {f5 : List (List (S112))} {f6 : List Int} {f7 : List Int} {f8 : List (List (S112))} {f9 : List (List (S112))} {f10 : Int} {α : Type} {d : Kd α} {e : Nat} {base : Nat} {ok : Nat → Prop} {v : Value} {xs : List α} (h : IsS37 w0 W g f0 f1 f2 f3 f4 f5 f6 f7 f8 f9 f10) (ho : d.Q e W base ok v xs) (ht : e ≠ 37) : some g ≠ v.ownBlock := by
 obtain ⟨A2, c2, A3, c3, A4, c4, A5, c5, A6, c6, A7, c7, A8, c8, A9, c9, hb, hg, hr2, hr3, hr4, hr5, hr6, hr7, hr8, hr9⟩ := h
 exact Kd.Q_ne ho hb ht
theorem IsS37.apartS {w0 W : World} {g : Nat} {f0 : Int} {f1 : Int} {f2 : List Int} {f3 : List Int} {f4 : List Int} {f5 : List (List (S112))} {f6 : List Int} {f7 : List Int} {f8 : List (List (S112))} {f9 : List (List (S112))} {f10 : Int} {α : Type} {d : Kd α} {e : Nat} {base : Nat} {ok : Nat → Prop} {v : Value} {xs : List α} (h : IsS37 w0 W g f0 f1 f2 f3 f4 f5 f6 f7 f8 f9 f10) (ho : d.S e W base ok v xs) (ht : ∀ q, q ∈ e :: d.E → q ≠ 37) : d.S e W base (fun k => ok k ∧ k ≠ g) v xs := by
 obtain ⟨A2, c2, A3, c3, A4, c4, A5, c5, A6, c6, A7, c7, A8, c8, A9, c9, hb, hg, hr2, hr3, hr4, hr5, hr6, hr7, hr8, hr9⟩ := h
 exact Kd.S_types ho hb ht
theorem IsS37.own_neS {w0 W : World} {g : Nat} {f0 : Int} {f1 : Int} {f2 : List Int} {f3 : List Int} {f4 : List Int} {f5 : List (List (S112))} {f6 : List Int} {f7 : List Int} {f8 : List (List (S112))} {f9 : List (List (S112))} {f10 : Int} {α : Type} {d : Kd α} {e : Nat} {base : Nat} {ok : Nat → Prop} {v : Value} {xs : List α} (h : IsS37 w0 W g f0 f1 f2 f3 f4 f5 f6 f7 f8 f9 f10) (ho : d.S e W base ok v xs) (ht : e ≠ 37) : some g ≠ v.ownBlock := by
 obtain ⟨A2, c2, A3, c3, A4, c4, A5, c5, A6, c6, A7, c7, A8, c8, A9, c9, hb, hg, hr2, hr3, hr4, hr5, hr6, hr7, hr8, hr9⟩ := h
 exact Kd.S_ne ho hb ht
theorem IsS37.lt {w0 W : World} {g : Nat} {f0 : Int} {f1 : Int} {f2 : List Int} {f3 : List Int} {f4 : List Int} {f5 : List (List (S112))} {f6 : List Int} {f7 : List Int} {f8 : List (List (S112))} {f9 : List (List (S112))} {f10 : Int} (h : IsS37 w0 W g f0 f1 f2 f3 f4 f5 f6 f7 f8 f9 f10) : g < W.heap.size := by
 obtain ⟨A2, c2, A3, c3, A4, c4, A5, c5, A6, c6, A7, c7, A8, c8, A9, c9, hb, hg, hr2, hr3, hr4, hr5, hr6, hr7, hr8, hr9⟩ := h
 exact blk_lt hb
theorem IsS37.ge {w0 W : World} {g : Nat} {f0 : Int} {f1 : Int} {f2 : List Int} {f3 : List Int} {f4 : List Int} {f5 : List (List (S112))} {f6 : List Int} {f7 : List Int} {f8 : List (List (S112))} {f9 : List (List (S112))} {f10 : Int} (h : IsS37 w0 W g f0 f1 f2 f3 f4 f5 f6 f7 f8 f9 f10) : w0.heap.size ≤ g := by
 obtain ⟨A2, c2, A3, c3, A4, c4, A5, c5, A6, c6, A7, c7, A8, c8, A9, c9, hb, hg, hr2, hr3, hr4, hr5, hr6, hr7, hr8, hr9⟩ := h
 exact hg
theorem IsS37.ne_blk {w0 W : World} {g : Nat} {f0 : Int} {f1 : Int} {f2 : List Int} {f3 : List Int} {f4 : List Int} {f5 : List (List (S112))} {f6 : List Int} {f7 : List Int} {f8 : List (List (S112))} {f9 : List (List (S112))} {f10 : Int} {a : Nat} {cs : Array Value} {t : TypeId} {fr : Nat × Nat} (h : IsS37 w0 W g f0 f1 f2 f3 f4 f5 f6 f7 f8 f9 f10) (hb2 : W.heap[a]? = some (.cells cs t fr)) (ht : t ≠ 37) : g ≠ a := by
 obtain ⟨A2, c2, A3, c3, A4, c4, A5, c5, A6, c6, A7, c7, A8, c8, A9, c9, hb, hg, hr2, hr3, hr4, hr5, hr6, hr7, hr8, hr9⟩ := h
 rintro rfl
 rw [hb] at hb2
 injection hb2 with hb2
 injection hb2 with _ ht2
 exact ht ht2.symm
theorem IsS37.far {w0 W : World} {g : Nat} {f0 : Int} {f1 : Int} {f2 : List Int} {f3 : List Int} {f4 : List Int} {f5 : List (List (S112))} {f6 : List Int} {f7 : List Int} {f8 : List (List (S112))} {f9 : List (List (S112))} {f10 : Int} {p : Addr} (h : IsS37 w0 W g f0 f1 f2 f3 f4 f5 f6 f7 f8 f9 f10) (hne : g ≠ p.block) (u : Value) : IsS37 w0 (W.setCell p u) g f0 f1 f2 f3 f4 f5 f6 f7 f8 f9 f10 := by
 obtain ⟨A2, c2, A3, c3, A4, c4, A5, c5, A6, c6, A7, c7, A8, c8, A9, c9, hb, hg, hr2, hr3, hr4, hr5, hr6, hr7, hr8, hr9⟩ := h
 exact ⟨A2, c2, A3, c3, A4, c4, A5, c5, A6, c6, A7, c7, A8, c8, A9, c9, blk_far hb hne u, hg, hr2, hr3, hr4, hr5, hr6, hr7, hr8, hr9⟩
theorem cellS37_0 {W : World} {g : Nat} {A2 : Option Addr} {c2 : Nat} {A3 : Option Addr} {c3 : Nat} {A4 : Option Addr} {c4 : Nat} {A5 : Option Addr} {c5 : Nat} {A6 : Option Addr} {c6 : Nat} {A7 : Option Addr} {c7 : Nat} {A8 : Option Addr} {c8 : Nat} {A9 : Option Addr} {c9 : Nat} {f0 : Int} {f1 : Int} {f2 : List Int} {f3 : List Int} {f4 : List Int} {f5 : List (List (S112))} {f6 : List Int} {f7 : List Int} {f8 : List (List (S112))} {f9 : List (List (S112))} {f10 : Int} (h : W.heap[g]? = some (.cells #[.int .i64 f0, .int .i64 f1, .slice A2 f2.length c2, .slice A3 f3.length c3, .slice A4 f4.length c4, .slice A5 f5.length c5, .slice A6 f6.length c6, .slice A7 f7.length c7, .slice A8 f8.length c8, .slice A9 f9.length c9, .int .i64 f10] 37 (0, 0))) : W.cell? ⟨g, 0, none⟩ = some (.int .i64 f0) := (blk_cell h 0).trans rfl
theorem IsS37.set_0 {w0 W : World} {g : Nat} {f0 : Int} {f1 : Int} {f2 : List Int} {f3 : List Int} {f4 : List Int} {f5 : List (List (S112))} {f6 : List Int} {f7 : List Int} {f8 : List (List (S112))} {f9 : List (List (S112))} {f10 : Int} (h : IsS37 w0 W g f0 f1 f2 f3 f4 f5 f6 f7 f8 f9 f10) (x : Int) : IsS37 w0 (W.setCell ⟨g, 0, none⟩ (.int .i64 x)) g x f1 f2 f3 f4 f5 f6 f7 f8 f9 f10 := by
 obtain ⟨A2, c2, A3, c3, A4, c4, A5, c5, A6, c6, A7, c7, A8, c8, A9, c9, hb, hg, hr2, hr3, hr4, hr5, hr6, hr7, hr8, hr9⟩ := h
 exact ⟨A2, c2, A3, c3, A4, c4, A5, c5, A6, c6, A7, c7, A8, c8, A9, c9, by simpa using blk_set hb 0 (.int .i64 x), hg, hr2, hr3, hr4, hr5, hr6, hr7, hr8, hr9⟩
theorem cellS37_1 {W : World} {g : Nat} {A2 : Option Addr} {c2 : Nat} {A3 : Option Addr} {c3 : Nat} {A4 : Option Addr} {c4 : Nat} {A5 : Option Addr} {c5 : Nat} {A6 : Option Addr} {c6 : Nat} {A7 : Option Addr} {c7 : Nat} {A8 : Option Addr} {c8 : Nat} {A9 : Option Addr} {c9 : Nat} {f0 : Int} {f1 : Int} {f2 : List Int} {f3 : List Int} {f4 : List Int} {f5 : List (List (S112))} {f6 : List Int} {f7 : List Int} {f8 : List (List (S112))} {f9 : List (List (S112))} {f10 : Int} (h : W.heap[g]? = some (.cells #[.int .i64 f0, .int .i64 f1, .slice A2 f2.length c2, .slice A3 f3.length c3, .slice A4 f4.length c4, .slice A5 f5.length c5, .slice A6 f6.length c6, .slice A7 f7.length c7, .slice A8 f8.length c8, .slice A9 f9.length c9, .int .i64 f10] 37 (0, 0))) : W.cell? ⟨g, 1, none⟩ = some (.int .i64 f1) := (blk_cell h 1).trans rfl
theorem IsS37.set_1 {w0 W : World} {g : Nat} {f0 : Int} {f1 : Int} {f2 : List Int} {f3 : List Int} {f4 : List Int} {f5 : List (List (S112))} {f6 : List Int} {f7 : List Int} {f8 : List (List (S112))} {f9 : List (List (S112))} {f10 : Int} (h : IsS37 w0 W g f0 f1 f2 f3 f4 f5 f6 f7 f8 f9 f10) (x : Int) : IsS37 w0 (W.setCell ⟨g, 1, none⟩ (.int .i64 x)) g f0 x f2 f3 f4 f5 f6 f7 f8 f9 f10 := by
 obtain ⟨A2, c2, A3, c3, A4, c4, A5, c5, A6, c6, A7, c7, A8, c8, A9, c9, hb, hg, hr2, hr3, hr4, hr5, hr6, hr7, hr8, hr9⟩ := h
 exact ⟨A2, c2, A3, c3, A4, c4, A5, c5, A6, c6, A7, c7, A8, c8, A9, c9, by simpa using blk_set hb 1 (.int .i64 x), hg, hr2, hr3, hr4, hr5, hr6, hr7, hr8, hr9⟩
theorem cellS37_2 {W : World} {g : Nat} {A2 : Option Addr} {c2 : Nat} {A3 : Option Addr} {c3 : Nat} {A4 : Option Addr} {c4 : Nat} {A5 : Option Addr} {c5 : Nat} {A6 : Option Addr} {c6 : Nat} {A7 : Option Addr} {c7 : Nat} {A8 : Option Addr} {c8 : Nat} {A9 : Option Addr} {c9 : Nat} {f0 : Int} {f1 : Int} {f2 : List Int} {f3 : List Int} {f4 : List Int} {f5 : List (List (S112))} {f6 : List Int} {f7 : List Int} {f8 : List (List (S112))} {f9 : List (List (S112))} {f10 : Int} (h : W.heap[g]? = some (.cells #[.int .i64 f0, .int .i64 f1, .slice A2 f2.length c2, .slice A3 f3.length c3, .slice A4 f4.length c4, .slice A5 f5.length c5, .slice A6 f6.length c6, .slice A7 f7.length c7, .slice A8 f8.length c8, .slice A9 f9.length c9, .int .i64 f10] 37 (0, 0))) : W.cell? ⟨g, 2, none⟩ = some (.slice A2 f2.length c2) := (blk_cell h 2).trans rfl
theorem cellS37_3 {W : World} {g : Nat} {A2 : Option Addr} {c2 : Nat} {A3 : Option Addr} {c3 : Nat} {A4 : Option Addr} {c4 : Nat} {A5 : Option Addr} {c5 : Nat} {A6 : Option Addr} {c6 : Nat} {A7 : Option Addr} {c7 : Nat} {A8 : Option Addr} {c8 : Nat} {A9 : Option Addr} {c9 : Nat} {f0 : Int} {f1 : Int} {f2 : List Int} {f3 : List Int} {f4 : List Int} {f5 : List (List (S112))} {f6 : List Int} {f7 : List Int} {f8 : List (List (S112))} {f9 : List (List (S112))} {f10 : Int} (h : W.heap[g]? = some (.cells #[.int .i64 f0, .int .i64 f1, .slice A2 f2.length c2, .slice A3 f3.length c3, .slice A4 f4.length c4, .slice A5 f5.length c5, .slice A6 f6.length c6, .slice A7 f7.length c7, .slice A8 f8.length c8, .slice A9 f9.length c9, .int .i64 f10] 37 (0, 0))) : W.cell? ⟨g, 3, none⟩ = some (.slice A3 f3.length c3) := (blk_cell h 3).trans rfl
theorem cellS37_4 {W : World} {g : Nat} {A2 : Option Addr} {c2 : Nat} {A3 : Option Addr} {c3 : Nat} {A4 : Option Addr} {c4 : Nat} {A5 : Option Addr} {c5 : Nat} {A6 : Option Addr} {c6 : Nat} {A7 : Option Addr} {c7 : Nat} {A8 : Option Addr} {c8 : Nat} {A9 : Option Addr} {c9 : Nat} {f0 : Int} {f1 : Int} {f2 : List Int} {f3 : List Int} {f4 : List Int} {f5 : List (List (S112))} {f6 : List Int} {f7 : List Int} {f8 : List (List (S112))} {f9 : List (List (S112))} {f10 : Int} (h : W.heap[g]? = some (.cells #[.int .i64 f0, .int .i64 f1, .slice A2 f2.length c2, .slice A3 f3.length c3, .slice A4 f4.length c4, .slice A5 f5.length c5, .slice A6 f6.length c6, .slice A7 f7.length c7, .slice A8 f8.length c8, .slice A9 f9.length c9, .int .i64 f10] 37 (0, 0))) : W.cell? ⟨g, 4, none⟩ = some (.slice A4 f4.length c4) := (blk_cell h 4).trans rfl
theorem cellS37_5 {W : World} {g : Nat} {A2 : Option Addr} {c2 : Nat} {A3 : Option Addr} {c3 : Nat} {A4 : Option Addr} {c4 : Nat} {A5 : Option Addr} {c5 : Nat} {A6 : Option Addr} {c6 : Nat} {A7 : Option Addr} {c7 : Nat} {A8 : Option Addr} {c8 : Nat} {A9 : Option Addr} {c9 : Nat} {f0 : Int} {f1 : Int} {f2 : List Int} {f3 : List Int} {f4 : List Int} {f5 : List (List (S112))} {f6 : List Int} {f7 : List Int} {f8 : List (List (S112))} {f9 : List (List (S112))} {f10 : Int} (h : W.heap[g]? = some (.cells #[.int .i64 f0, .int .i64 f1, .slice A2 f2.length c2, .slice A3 f3.length c3, .slice A4 f4.length c4, .slice A5 f5.length c5, .slice A6 f6.length c6, .slice A7 f7.length c7, .slice A8 f8.length c8, .slice A9 f9.length c9, .int .i64 f10] 37 (0, 0))) : W.cell? ⟨g, 5, none⟩ = some (.slice A5 f5.length c5) := (blk_cell h 5).trans rfl
theorem cellS37_6 {W : World} {g : Nat} {A2 : Option Addr} {c2 : Nat} {A3 : Option Addr} {c3 : Nat} {A4 : Option Addr} {c4 : Nat} {A5 : Option Addr} {c5 : Nat} {A6 : Option Addr} {c6 : Nat} {A7 : Option Addr} {c7 : Nat} {A8 : Option Addr} {c8 : Nat} {A9 : Option Addr} {c9 : Nat} {f0 : Int} {f1 : Int} {f2 : List Int} {f3 : List Int} {f4 : List Int} {f5 : List (List (S112))} {f6 : List Int} {f7 : List Int} {f8 : List (List (S112))} {f9 : List (List (S112))} {f10 : Int} (h : W.heap[g]? = some (.cells #[.int .i64 f0, .int .i64 f1, .slice A2 f2.length c2, .slice A3 f3.length c3, .slice A4 f4.length c4, .slice A5 f5.length c5, .slice A6 f6.length c6, .slice A7 f7.length c7, .slice A8 f8.length c8, .slice A9 f9.length c9, .int .i64 f10] 37 (0, 0))) : W.cell? ⟨g, 6, none⟩ = some (.slice A6 f6.length c6) := (blk_cell h 6).trans rfl
theorem cellS37_7 {W : World} {g : Nat} {A2 : Option Addr} {c2 : Nat} {A3 : Option Addr} {c3 : Nat} {A4 : Option Addr} {c4 : Nat} {A5 : Option Addr} {c5 : Nat} {A6 : Option Addr} {c6 : Nat} {A7 : Option Addr} {c7 : Nat} {A8 : Option Addr} {c8 : Nat} {A9 : Option Addr} {c9 : Nat} {f0 : Int} {f1 : Int} {f2 : List Int} {f3 : List Int} {f4 : List Int} {f5 : List (List (S112))} {f6 : List Int} {f7 : List Int} {f8 : List (List (S112))} {f9 : List (List (S112))} {f10 : Int} (h : W.heap[g]? = some (.cells #[.int .i64 f0, .int .i64 f1, .slice A2 f2.length c2, .slice A3 f3.length c3, .slice A4 f4.length c4, .slice A5 f5.length c5, .slice A6 f6.length c6, .slice A7 f7.length c7, .slice A8 f8.length c8, .slice A9 f9.length c9, .int .i64 f10] 37 (0, 0))) : W.cell? ⟨g, 7, none⟩ = some (.slice A7 f7.length c7) := (blk_cell h 7).trans rfl
theorem cellS37_8 {W : World} {g : Nat} {A2 : Option Addr} {c2 : Nat} {A3 : Option Addr} {c3 : Nat} {A4 : Option Addr} {c4 : Nat} {A5 : Option Addr} {c5 : Nat} {A6 : Option Addr} {c6 : Nat} {A7 : Option Addr} {c7 : Nat} {A8 : Option Addr} {c8 : Nat} {A9 : Option Addr} {c9 : Nat} {f0 : Int} {f1 : Int} {f2 : List Int} {f3 : List Int} {f4 : List Int} {f5 : List (List (S112))} {f6 : List Int} {f7 : List Int} {f8 : List (List (S112))} {f9 : List (List (S112))} {f10 : Int} (h : W.heap[g]? = some (.cells #[.int .i64 f0, .int .i64 f1, .slice A2 f2.length c2, .slice A3 f3.length c3, .slice A4 f4.length c4, .slice A5 f5.length c5, .slice A6 f6.length c6, .slice A7 f7.length c7, .slice A8 f8.length c8, .slice A9 f9.length c9, .int .i64 f10] 37 (0, 0))) : W.cell? ⟨g, 8, none⟩ = some (.slice A8 f8.length c8) := (blk_cell h 8).trans rfl
theorem cellS37_9 {W : World} {g : Nat} {A2 : Option Addr} {c2 : Nat} {A3 : Option Addr} {c3 : Nat} {A4 : Option Addr} {c4 : Nat} {A5 : Option Addr} {c5 : Nat} {A6 : Option Addr} {c6 : Nat} {A7 : Option Addr} {c7 : Nat} {A8 : Option Addr} {c8 : Nat} {A9 : Option Addr} {c9 : Nat} {f0 : Int} {f1 : Int} {f2 : List Int} {f3 : List Int} {f4 : List Int} {f5 : List (List (S112))} {f6 : List Int} {f7 : List Int} {f8 : List (List (S112))} {f9 : List (List (S112))} {f10 : Int} (h : W.heap[g]? = some (.cells #[.int .i64 f0, .int .i64 f1, .slice A2 f2.length c2, .slice A3 f3.length c3, .slice A4 f4.length c4, .slice A5 f5.length c5, .slice A6 f6.length c6, .slice A7 f7.length c7, .slice A8 f8.length c8, .slice A9 f9.length c9, .int .i64 f10] 37 (0, 0))) : W.cell? ⟨g, 9, none⟩ = some (.slice A9 f9.length c9) := (blk_cell h 9).trans rfl
theorem cellS37_10 {W : World} {g : Nat} {A2 : Option Addr} {c2 : Nat} {A3 : Option Addr} {c3 : Nat} {A4 : Option Addr} {c4 : Nat} {A5 : Option Addr} {c5 : Nat} {A6 : Option Addr} {c6 : Nat} {A7 : Option Addr} {c7 : Nat} {A8 : Option Addr} {c8 : Nat} {A9 : Option Addr} {c9 : Nat} {f0 : Int} {f1 : Int} {f2 : List Int} {f3 : List Int} {f4 : List Int} {f5 : List (List (S112))} {f6 : List Int} {f7 : List Int} {f8 : List (List (S112))} {f9 : List (List (S112))} {f10 : Int} (h : W.heap[g]? = some (.cells #[.int .i64 f0, .int .i64 f1, .slice A2 f2.length c2, .slice A3 f3.length c3, .slice A4 f4.length c4, .slice A5 f5.length c5, .slice A6 f6.length c6, .slice A7 f7.length c7, .slice A8 f8.length c8, .slice A9 f9.length c9, .int .i64 f10] 37 (0, 0))) : W.cell? ⟨g, 10, none⟩ = some (.int .i64 f10) := (blk_cell h 10).trans rfl
theorem IsS37.set_10 {w0 W : World} {g : Nat} {f0 : Int} {f1 : Int} {f2 : List Int} {f3 : List Int} {f4 : List Int} {f5 : List (List (S112))} {f6 : List Int} {f7 : List Int} {f8 : List (List (S112))} {f9 : List (List (S112))} {f10 : Int} (h : IsS37 w0 W g f0 f1 f2 f3 f4 f5 f6 f7 f8 f9 f10) (x : Int) : IsS37 w0 (W.setCell ⟨g, 10, none⟩ (.int .i64 x)) g f0 f1 f2 f3 f4 f5 f6 f7 f8 f9 x := by
 obtain ⟨A2, c2, A3, c3, A4, c4, A5, c5, A6, c6, A7, c7, A8, c8, A9, c9, hb, hg, hr2, hr3, hr4, hr5, hr6, hr7, hr8, hr9⟩ := h
 exact ⟨A2, c2, A3, c3, A4, c4, A5, c5, A6, c6, A7, c7, A8, c8, A9, c9, by simpa using blk_set hb 10 (.int .i64 x), hg, hr2, hr3, hr4, hr5, hr6, hr7, hr8, hr9⟩
theorem IsS37.new (w0 W : World) (A2 : Option Addr) (c2 : Nat) (A3 : Option Addr) (c3 : Nat) (A4 : Option Addr) (c4 : Nat) (A5 : Option Addr) (c5 : Nat) (A6 : Option Addr) (c6 : Nat) (A7 : Option Addr) (c7 : Nat) (A8 : Option Addr) (c8 : Nat) (A9 : Option Addr) (c9 : Nat) (f0 : Int) (f1 : Int) (f2 : List Int) (f3 : List Int) (f4 : List Int) (f5 : List (List (S112))) (f6 : List Int) (f7 : List Int) (f8 : List (List (S112))) (f9 : List (List (S112))) (f10 : Int) (hB : Below w0.heap.size w0 W) (hr2 : Kd.C (Kd.int .i64) w0 A2 f2.length f2) (hr3 : Kd.C (Kd.int .i64) w0 A3 f3.length f3) (hr4 : Kd.C (Kd.int .i64) w0 A4 f4.length f4) (hr5 : Kd.C (Kd.slice 112 k112) w0 A5 f5.length f5) (hr6 : Kd.C (Kd.int .i64) w0 A6 f6.length f6) (hr7 : Kd.C (Kd.int .i64) w0 A7 f7.length f7) (hr8 : Kd.C (Kd.slice 112 k112) w0 A8 f8.length f8) (hr9 : Kd.C (Kd.slice 112 k112) w0 A9 f9.length f9) : IsS37 w0 (W.alloc (.cells #[.int .i64 f0, .int .i64 f1, .slice A2 f2.length c2, .slice A3 f3.length c3, .slice A4 f4.length c4, .slice A5 f5.length c5, .slice A6 f6.length c6, .slice A7 f7.length c7, .slice A8 f8.length c8, .slice A9 f9.length c9, .int .i64 f10] 37)) W.heap.size f0 f1 f2 f3 f4 f5 f6 f7 f8 f9 f10 := ⟨A2, c2, A3, c3, A4, c4, A5, c5, A6, c6, A7, c7, A8, c8, A9, c9, by simpa using heap_alloc_new W _, hB.size, hr2, hr3, hr4, hr5, hr6, hr7, hr8, hr9⟩

/-! ### impl_Net_entering: function 72 -/
def impl_Net_entering.l0 : Nat → List Int → List (List (S112)) → Int → Int → Int → Int → List Int → List Int → List Int → List (List (S112)) → List Int → List Int → List (List (S112)) → List (List (S112)) → Int → Option (List Int × Int × Int × Int)
 | 0, _, _, _, _, _, _, _, _, _, _, _, _, _, _, _ => none
 | k + 1, x3, x10, x11, x12, x1000, x1001, x1002, x1003, x1004, x1005, x1006, x1007, x1008, x1009, x1010 => if x12 < x11 then (if 0 ≤ x12 then (if x12 < (x10.length : Int) then (if ((rd_L3 x10 x12).length : Int) > 0 then (if 0 < ((rd_L3 x10 x12).length : Int) then ((impl_BufferAt.f x12 4 ((rd_T112 (rd_L3 x10 x12) 0).f2)).bind fun t458 => (if 0 ≤ t458 then (if t458 < (x1005.length : Int) then (if ((rd_L3 x1005 t458).length : Int) < 3 then (if x3.length < 17592186044416 then (impl_Net_entering.l0 k (x3 ++ [x12]) x10 x11 (wrap64 (x12 + 1)) x1000 x1001 x1002 x1003 x1004 x1005 x1006 x1007 x1008 x1009 x1010) else (none)) else (impl_Net_entering.l0 k x3 x10 x11 (wrap64 (x12 + 1)) x1000 x1001 x1002 x1003 x1004 x1005 x1006 x1007 x1008 x1009 x1010)) else (none)) else (none))) else (none)) else (impl_Net_entering.l0 k x3 x10 x11 (wrap64 (x12 + 1)) x1000 x1001 x1002 x1003 x1004 x1005 x1006 x1007 x1008 x1009 x1010)) else (none)) else (none)) else (some (x3, x1000, x1001, x1010))
def impl_Net_entering.f (k : Nat) (s0_0 : Int) (s0_1 : Int) (s0_2 : List Int) (s0_3 : List Int) (s0_4 : List Int) (s0_5 : List (List (S112))) (s0_6 : List Int) (s0_7 : List Int) (s0_8 : List (List (S112))) (s0_9 : List (List (S112))) (s0_10 : Int) : Option (List Int × Int × Int × Int) := impl_Net_entering.l0 k (([] : List Int)) s0_8 (s0_8.length : Int) 0 s0_0 s0_1 s0_2 s0_3 s0_4 s0_5 s0_6 s0_7 s0_8 s0_9 s0_10
theorem impl_Net_entering.mono_l : ∀ k, (∀ y0 y1 y2 y3 y4 y5 y6 y7 y8 y9 y10 y11 y12 y13 y14, LeO (impl_Net_entering.l0 k y0 y1 y2 y3 y4 y5 y6 y7 y8 y9 y10 y11 y12 y13 y14) (impl_Net_entering.l0 (k + 1) y0 y1 y2 y3 y4 y5 y6 y7 y8 y9 y10 y11 y12 y13 y14))
 | 0 => fun _ _ _ _ _ _ _ _ _ _ _ _ _ _ _ r h => by simp [impl_Net_entering.l0] at h
 | k + 1 => by
  have ih0 := impl_Net_entering.mono_l k
  ·intro y0 y1 y2 y3 y4 y5 y6 y7 y8 y9 y10 y11 y12 y13 y14
   unfold impl_Net_entering.l0
   repeat' first
   | (with_reducible exact ih0 _ _ _ _ _ _ _ _ _ _ _ _ _ _ _)
   | (with_reducible exact LeO.refl _)
   | (with_reducible exact LeO.none _)
   | (with_reducible refine LeO.ite ?_ ?_)
   | (with_reducible refine LeO.bind ?_ (fun _ => ?_))
   | exact ih0 _ _ _ _ _ _ _ _ _ _ _ _ _ _ _
   | exact LeO.none _
   | refine LeO.ite ?_ ?_
   | refine LeO.bind ?_ (fun _ => ?_)
theorem impl_Net_entering.mono : ∀ a0 a1 a2 a3 a4 a5 a6 a7 a8 a9 a10 k, LeO (impl_Net_entering.f k a0 a1 a2 a3 a4 a5 a6 a7 a8 a9 a10) (impl_Net_entering.f (k + 1) a0 a1 a2 a3 a4 a5 a6 a7 a8 a9 a10) := by
 intro a0 a1 a2 a3 a4 a5 a6 a7 a8 a9 a10 k
 have ih0 := impl_Net_entering.mono_l k
 unfold impl_Net_entering.f
 repeat' first
   | (with_reducible exact ih0 _ _ _ _ _ _ _ _ _ _ _ _ _ _ _)
   | (with_reducible exact LeO.refl _)
   | (with_reducible exact LeO.none _)
   | (with_reducible refine LeO.ite ?_ ?_)
   | (with_reducible refine LeO.bind ?_ (fun _ => ?_))
   | exact ih0 _ _ _ _ _ _ _ _ _ _ _ _ _ _ _
   | exact LeO.none _
   | refine LeO.ite ?_ ?_
   | refine LeO.bind ?_ (fun _ => ?_)
set_option maxHeartbeats 8000000 in
set_option maxRecDepth 100000 in
theorem impl_Net_entering.calls (k : Nat) (g : Nat) (s0_0 : Int) (s0_1 : Int) (s0_2 : List Int) (s0_3 : List Int) (s0_4 : List Int) (s0_5 : List (List (S112))) (s0_6 : List Int) (s0_7 : List Int) (s0_8 : List (List (S112))) (s0_9 : List (List (S112))) (s0_10 : Int) (r1 : List Int) (r2 : Int) (r3 : Int) (r4 : Int) (w0 w : World) (hI : IsS37 w0 w g s0_0 s0_1 s0_2 s0_3 s0_4 s0_5 s0_6 s0_7 s0_8 s0_9 s0_10) (hB : Below w0.heap.size w0 w) (h : impl_Net_entering.f k s0_0 s0_1 s0_2 s0_3 s0_4 s0_5 s0_6 s0_7 s0_8 s0_9 s0_10 = some (r1, r2, r3, r4)) :
  Calls Try.prog 72 #[.pointer (some ⟨g, 0, none⟩)] w fun e w' => ∃ v0_ : Value, e = .returned (v0_) ∧ Kd.R (Kd.int .i64) 3 w' w.heap.size (fun _ => True) v0_ r1 ∧ IsS37 w0 w' g r2 r3 s0_2 s0_3 s0_4 s0_5 s0_6 s0_7 s0_8 s0_9 r4 ∧ Below w0.heap.size w0 w' ∧ KeepBut w w' g none := by
 have HI0 := Aside0.mk hI
 have HK := Aside0.mk (KeepBut.refl w g none)
 have HL := Aside0.mk hB.size
 clear hI
 have HW0 := Aside0.mk hB.size
 have HB := Aside0.mk hB
 clear hB
 have H : (impl_Net_entering.l0 k (([] : List Int)) s0_8 (s0_8.length : Int) 0 s0_0 s0_1 s0_2 s0_3 s0_4 s0_5 s0_6 s0_7 s0_8 s0_9 s0_10) = some (r1, r2, r3, r4) := h
 clear h
 obtain ⟨y453, hy453⟩ : ∃ y_ : List Int, y_ = (([] : List Int)) := ⟨_, rfl⟩
 replace H : (impl_Net_entering.l0 k y453 s0_8 (s0_8.length : Int) 0 s0_0 s0_1 s0_2 s0_3 s0_4 s0_5 s0_6 s0_7 s0_8 s0_9 s0_10) = some (r1, r2, r3, r4) := by first | (rw [hy453]; with_reducible exact H) | (have H2_ := (Option.bind_some _ _).symm.trans H; rw [hy453]; with_reducible exact H2_) | (have H2_ := (Option.bind_some _ _).symm.trans H; with_reducible exact H2_) | with_reducible exact H | (rw [hy453]; exact H) | exact H
 have Ny453 := Aside0.mk hy453
 clear hy453
 have H' := Aside0.mk H
 clear H
 go_enter Try.func72, Try.ntmps72
 go_wp2_with (first | ((with_reducible refine gate_dst (N := 6) rfl ?_); (try (refine gate_guard (by rfl) ?_; dsimp only)); refine Kd.R_lit (Kd.int .i64) _ 3 ?hg (N := 6) ?hd (xs := ([] : List Int)) (inner := []) (ok := fun _ => True) (okp := fun _ => True) ?hr ?hp (fun _ hk => hk) trivial (Below.refl _ _) (Nat.le_refl _) (by simp) ?_; (case hd => rfl); (case hg => rfl); (case hr => first | (go_simp; done) | (go_simp; rfl)); (case hp => exact (Reps.none _ _)); intro v454 w2 ho3 hb hg_ hnew_; clear hg_ hnew_; (first | rw [← Ny453.out] at ho3 | (simp only [Int.reduceToNat] at ho3; rw [← Ny453.out] at ho3)); have HO455 := Aside0.mk (Kd.R_lower ho3 (keep_size (w := w) (g := g) (row := none) (by repeat (first | (with_reducible first | exact HK.out | apply KeepBut.set_ | apply keep_drewN | apply keep_drew | apply keep_alloc) | exact HK.out)))); replace HK := Aside0.mk (KeepBut.trans (by repeat (first | (with_reducible first | exact HK.out | apply KeepBut.set_ | apply keep_drewN | apply keep_drew | apply keep_alloc) | exact HK.out)) (KeepBut.of_below hb g none) (.inl rfl)); replace HB := Aside0.mk (below_step (by repeat (first | (with_reducible first | exact HB.out | apply below_alloc | apply pw_below_drewN | apply below_drew1 | refine below_set ?_ (IsS37.ge HI0.out)) | exact HB.out)) hb); replace HI0 := Aside0.mk (IsS37.below (by repeat (first | (with_reducible first | exact HI0.out | apply IsS37.alloc | apply IsS37.drewN | apply IsS37.drew | apply IsS37.set_0 | apply IsS37.set_1 | apply IsS37.set_10) | exact HI0.out)) hb); clear hb ho3; obtain ⟨ASz4_2, cSz4_2, ASz4_3, cSz4_3, ASz4_4, cSz4_4, ASz4_5, cSz4_5, ASz4_6, cSz4_6, ASz4_7, cSz4_7, ASz4_8, cSz4_8, ASz4_9, cSz4_9, HGz4, hgz4, HSz4_2, HSz4_3, HSz4_4, HSz4_5, HSz4_6, HSz4_7, HSz4_8, HSz4_9⟩ := HI0.out; have hcz4_0 := cellS37_0 HGz4; have hcz4_1 := cellS37_1 HGz4; have hcz4_2 := cellS37_2 HGz4; have hcz4_3 := cellS37_3 HGz4; have hcz4_4 := cellS37_4 HGz4; have hcz4_5 := cellS37_5 HGz4; have hcz4_6 := cellS37_6 HGz4; have hcz4_7 := cellS37_7 HGz4; have hcz4_8 := cellS37_8 HGz4; have hcz4_9 := cellS37_9 HGz4; have hcz4_10 := cellS37_10 HGz4; have hfz4_0 := blk_frozen HGz4 0; have hfz4_1 := blk_frozen HGz4 1; have hfz4_10 := blk_frozen HGz4 10; clear HGz4 hgz4))
 repeat (go_quiet (first | ((with_reducible refine gate_dst (N := 6) rfl ?_); (try (refine gate_guard (by rfl) ?_; dsimp only)); refine Kd.R_lit (Kd.int .i64) _ 3 ?hg (N := 6) ?hd (xs := ([] : List Int)) (inner := []) (ok := fun _ => True) (okp := fun _ => True) ?hr ?hp (fun _ hk => hk) trivial (Below.refl _ _) (Nat.le_refl _) (by simp) ?_; (case hd => rfl); (case hg => rfl); (case hr => first | (go_simp; done) | (go_simp; rfl)); (case hp => exact (Reps.none _ _)); intro v454 w2 ho3 hb hg_ hnew_; clear hg_ hnew_; (first | rw [← Ny453.out] at ho3 | (simp only [Int.reduceToNat] at ho3; rw [← Ny453.out] at ho3)); have HO455 := Aside0.mk (Kd.R_lower ho3 (keep_size (w := w) (g := g) (row := none) (by repeat (first | (with_reducible first | exact HK.out | apply KeepBut.set_ | apply keep_drewN | apply keep_drew | apply keep_alloc) | exact HK.out)))); replace HK := Aside0.mk (KeepBut.trans (by repeat (first | (with_reducible first | exact HK.out | apply KeepBut.set_ | apply keep_drewN | apply keep_drew | apply keep_alloc) | exact HK.out)) (KeepBut.of_below hb g none) (.inl rfl)); replace HB := Aside0.mk (below_step (by repeat (first | (with_reducible first | exact HB.out | apply below_alloc | apply pw_below_drewN | apply below_drew1 | refine below_set ?_ (IsS37.ge HI0.out)) | exact HB.out)) hb); replace HI0 := Aside0.mk (IsS37.below (by repeat (first | (with_reducible first | exact HI0.out | apply IsS37.alloc | apply IsS37.drewN | apply IsS37.drew | apply IsS37.set_0 | apply IsS37.set_1 | apply IsS37.set_10) | exact HI0.out)) hb); clear hb ho3; obtain ⟨ASz4_2, cSz4_2, ASz4_3, cSz4_3, ASz4_4, cSz4_4, ASz4_5, cSz4_5, ASz4_6, cSz4_6, ASz4_7, cSz4_7, ASz4_8, cSz4_8, ASz4_9, cSz4_9, HGz4, hgz4, HSz4_2, HSz4_3, HSz4_4, HSz4_5, HSz4_6, HSz4_7, HSz4_8, HSz4_9⟩ := HI0.out; have hcz4_0 := cellS37_0 HGz4; have hcz4_1 := cellS37_1 HGz4; have hcz4_2 := cellS37_2 HGz4; have hcz4_3 := cellS37_3 HGz4; have hcz4_4 := cellS37_4 HGz4; have hcz4_5 := cellS37_5 HGz4; have hcz4_6 := cellS37_6 HGz4; have hcz4_7 := cellS37_7 HGz4; have hcz4_8 := cellS37_8 HGz4; have hcz4_9 := cellS37_9 HGz4; have hcz4_10 := cellS37_10 HGz4; have hfz4_0 := blk_frozen HGz4 0; have hfz4_1 := blk_frozen HGz4 1; have hfz4_10 := blk_frozen HGz4 10; clear HGz4 hgz4)); try go_wp2_with (first | ((with_reducible refine gate_dst (N := 6) rfl ?_); (try (refine gate_guard (by rfl) ?_; dsimp only)); refine Kd.R_lit (Kd.int .i64) _ 3 ?hg (N := 6) ?hd (xs := ([] : List Int)) (inner := []) (ok := fun _ => True) (okp := fun _ => True) ?hr ?hp (fun _ hk => hk) trivial (Below.refl _ _) (Nat.le_refl _) (by simp) ?_; (case hd => rfl); (case hg => rfl); (case hr => first | (go_simp; done) | (go_simp; rfl)); (case hp => exact (Reps.none _ _)); intro v454 w2 ho3 hb hg_ hnew_; clear hg_ hnew_; (first | rw [← Ny453.out] at ho3 | (simp only [Int.reduceToNat] at ho3; rw [← Ny453.out] at ho3)); have HO455 := Aside0.mk (Kd.R_lower ho3 (keep_size (w := w) (g := g) (row := none) (by repeat (first | (with_reducible first | exact HK.out | apply KeepBut.set_ | apply keep_drewN | apply keep_drew | apply keep_alloc) | exact HK.out)))); replace HK := Aside0.mk (KeepBut.trans (by repeat (first | (with_reducible first | exact HK.out | apply KeepBut.set_ | apply keep_drewN | apply keep_drew | apply keep_alloc) | exact HK.out)) (KeepBut.of_below hb g none) (.inl rfl)); replace HB := Aside0.mk (below_step (by repeat (first | (with_reducible first | exact HB.out | apply below_alloc | apply pw_below_drewN | apply below_drew1 | refine below_set ?_ (IsS37.ge HI0.out)) | exact HB.out)) hb); replace HI0 := Aside0.mk (IsS37.below (by repeat (first | (with_reducible first | exact HI0.out | apply IsS37.alloc | apply IsS37.drewN | apply IsS37.drew | apply IsS37.set_0 | apply IsS37.set_1 | apply IsS37.set_10) | exact HI0.out)) hb); clear hb ho3; obtain ⟨ASz4_2, cSz4_2, ASz4_3, cSz4_3, ASz4_4, cSz4_4, ASz4_5, cSz4_5, ASz4_6, cSz4_6, ASz4_7, cSz4_7, ASz4_8, cSz4_8, ASz4_9, cSz4_9, HGz4, hgz4, HSz4_2, HSz4_3, HSz4_4, HSz4_5, HSz4_6, HSz4_7, HSz4_8, HSz4_9⟩ := HI0.out; have hcz4_0 := cellS37_0 HGz4; have hcz4_1 := cellS37_1 HGz4; have hcz4_2 := cellS37_2 HGz4; have hcz4_3 := cellS37_3 HGz4; have hcz4_4 := cellS37_4 HGz4; have hcz4_5 := cellS37_5 HGz4; have hcz4_6 := cellS37_6 HGz4; have hcz4_7 := cellS37_7 HGz4; have hcz4_8 := cellS37_8 HGz4; have hcz4_9 := cellS37_9 HGz4; have hcz4_10 := cellS37_10 HGz4; have hfz4_0 := blk_frozen HGz4 0; have hfz4_1 := blk_frozen HGz4 1; have hfz4_10 := blk_frozen HGz4 10; clear HGz4 hgz4)))
 go_loopg [3, 12] k (fun kq v3 v12 w' => ∃ (x3_1 : List Int) (x12_1 : Int), v12 = .int .i64 x12_1 ∧ Aside0 (impl_Net_entering.l0 kq x3_1 s0_8 (s0_8.length : Int) x12_1 s0_0 s0_1 s0_2 s0_3 s0_4 s0_5 s0_6 s0_7 s0_8 s0_9 s0_10 = some (r1, r2, r3, r4)) ∧ Aside0 (kq ≤ k) ∧ Aside0 (Kd.R (Kd.int .i64) 3 w' w.heap.size (fun _ => True) v3 x3_1) ∧ Aside0 (IsS37 w0 w' g s0_0 s0_1 s0_2 s0_3 s0_4 s0_5 s0_6 s0_7 s0_8 s0_9 s0_10) ∧ Aside0 (KeepBut w w' g none) ∧ Aside0 (Below w0.heap.size w0 w'))
 case atStart => exact ⟨(y453), (0), ef_, H', ⟨Nat.le_refl _⟩, ⟨by (with_reducible repeat (first | apply Kd.R_alloc | apply Kd.R_drewN | apply Kd.R_drew)); exact HO455.out⟩, ⟨by repeat (first | (with_reducible first | exact HI0.out | apply IsS37.alloc | apply IsS37.drewN | apply IsS37.drew | apply IsS37.set_0 | apply IsS37.set_1 | apply IsS37.set_10) | exact HI0.out)⟩, ⟨by repeat (first | (with_reducible first | exact HK.out | apply KeepBut.set_ | apply keep_drewN | apply keep_drew | apply keep_alloc) | exact HK.out)⟩, ⟨by repeat (first | (with_reducible first | exact HB.out | apply below_alloc | apply pw_below_drewN | apply below_drew1 | refine below_set ?_ (IsS37.ge HI0.out)) | exact HB.out)⟩⟩
 case round =>
  clear H'
  try clear hcz4_0 hcz4_1 hcz4_10 hcz4_2 hcz4_3 hcz4_4 hcz4_5 hcz4_6 hcz4_7 hcz4_8 hcz4_9 hfz4_0 hfz4_1 hfz4_10
  obtain ⟨x3_1, x12_1, rfl, HA, HK1, HO_3, HI0, HK, HB⟩ := hrel
  cases gk with
  | zero => exact absurd HA.out (by simp [impl_Net_entering.l0])
  | succ k1 =>
   have H := HA.out
   clear HA
   simp only [impl_Net_entering.l0] at H
   by_cases c5 : x12_1 < (s0_8.length : Int)
   ·rw [if_pos c5] at H
    have c5b0 : decide (x12_1 < (s0_8.length : Int)) = true := decide_eq_true c5
    clear c5
    by_cases c6 : 0 ≤ x12_1
    ·rw [if_pos c6] at H
     have c6b0 : decide (0 ≤ x12_1) = true := decide_eq_true c6
     clear c6
     by_cases c7 : x12_1 < (s0_8.length : Int)
     ·rw [if_pos c7] at H
      have c7b0 : decide (x12_1 < (s0_8.length : Int)) = true := decide_eq_true c7
      clear c7
      by_cases c8 : ((rd_L3 s0_8 x12_1).length : Int) > 0
      ·rw [if_pos c8] at H
       have c8b0 : decide (0 < ((rd_L3 s0_8 x12_1).length : Int)) = true := decide_eq_true c8
       have c8b1 : decide (0 < (rd_L3 s0_8 x12_1).length) = true := decide_eq_true (by omega)
       clear c8
       by_cases c9 : 0 < ((rd_L3 s0_8 x12_1).length : Int)
       ·rw [if_pos c9] at H
        have c9b0 : decide (0 < ((rd_L3 s0_8 x12_1).length : Int)) = true := decide_eq_true c9
        have c9b1 : decide (0 < (rd_L3 s0_8 x12_1).length) = true := decide_eq_true (by omega)
        clear c9
        replace H := Option.bind_eq_some_iff.mp H
        obtain ⟨t458, A100, H⟩ := H
        try dsimp only at H
        have A10 := Aside0.mk A100
        clear A100
        by_cases c11 : 0 ≤ t458
        ·rw [if_pos c11] at H
         have c11b0 : decide (0 ≤ t458) = true := decide_eq_true c11
         clear c11
         by_cases c12 : t458 < (s0_5.length : Int)
         ·rw [if_pos c12] at H
          have c12b0 : decide (t458 < (s0_5.length : Int)) = true := decide_eq_true c12
          clear c12
          by_cases c13 : ((rd_L3 s0_5 t458).length : Int) < 3
          ·rw [if_pos c13] at H
           have c13b0 : decide (((rd_L3 s0_5 t458).length : Int) < 3) = true := decide_eq_true c13
           have c13b1 : decide ((rd_L3 s0_5 t458).length < 3) = true := decide_eq_true (by omega)
           clear c13
           by_cases c14 : x3_1.length < 17592186044416
           ·rw [if_pos c14] at H
            have LMc14 := Aside0.mk c14
            clear c14
            obtain ⟨y460, hy460⟩ : ∃ y_ : List Int, y_ = (x3_1 ++ [x12_1]) := ⟨_, rfl⟩
            replace H : (impl_Net_entering.l0 k1 y460 s0_8 (s0_8.length : Int) (wrap64 (x12_1 + 1)) s0_0 s0_1 s0_2 s0_3 s0_4 s0_5 s0_6 s0_7 s0_8 s0_9 s0_10) = some (r1, r2, r3, r4) := by first | (rw [hy460]; with_reducible exact H) | (have H2_ := (Option.bind_some _ _).symm.trans H; rw [hy460]; with_reducible exact H2_) | (have H2_ := (Option.bind_some _ _).symm.trans H; with_reducible exact H2_) | with_reducible exact H | (rw [hy460]; exact H) | exact H
            have Ny460 := Aside0.mk hy460
            clear hy460
            have H' := Aside0.mk H
            clear H
            obtain ⟨ASz15_2, cSz15_2, ASz15_3, cSz15_3, ASz15_4, cSz15_4, ASz15_5, cSz15_5, ASz15_6, cSz15_6, ASz15_7, cSz15_7, ASz15_8, cSz15_8, ASz15_9, cSz15_9, HGz15, hgz15, HSz15_2, HSz15_3, HSz15_4, HSz15_5, HSz15_6, HSz15_7, HSz15_8, HSz15_9⟩ := HI0.out
            have hcz15_0 := cellS37_0 HGz15
            have hcz15_1 := cellS37_1 HGz15
            have hcz15_2 := cellS37_2 HGz15
            have hcz15_3 := cellS37_3 HGz15
            have hcz15_4 := cellS37_4 HGz15
            have hcz15_5 := cellS37_5 HGz15
            have hcz15_6 := cellS37_6 HGz15
            have hcz15_7 := cellS37_7 HGz15
            have hcz15_8 := cellS37_8 HGz15
            have hcz15_9 := cellS37_9 HGz15
            have hcz15_10 := cellS37_10 HGz15
            have hfz15_0 := blk_frozen HGz15 0
            have hfz15_1 := blk_frozen HGz15 1
            have hfz15_10 := blk_frozen HGz15 10
            clear HGz15 hgz15
            have p456 : 0 ≤ (x12_1 : Int) := of_decide_eq_true dg_
            have q456 : x12_1 < (s0_8.length : Int) := of_decide_eq_true dg_
            obtain ⟨ad456, A456_0, c456_0, e456, hx456_0, hl456_0, hi456_0⟩ := at_L3 HSz4_8 x12_1 p456 q456
            cases e456
            replace hx456_0 := pw_cell_below HB.out hx456_0
            have HR456_0 := Aside0.mk hi456_0
            have HC456_0 := Aside0.mk hl456_0
            clear hi456_0 hl456_0
            replace p456 := eq_true p456
            replace q456 := eq_true q456
            have p457 : 0 ≤ (0 : Int) := (by omega)
            have q457 : 0 < ((rd_L3 s0_8 x12_1).length : Int) := of_decide_eq_true dg_
            obtain ⟨ad457, e457, hx457_0, hx457_1, hx457_2, hx457_3, hx457_4⟩ := at_T112 HR456_0.out 0 p457 q457
            cases e457
            have qi457 : (0 < (rd_L3 s0_8 x12_1).length) = True := eq_true (by omega)
            (try rw [show ((0 : Int)).toNat = 0 from rfl] at hx457_0)
            (try rw [show 0 * 5 = 0 from rfl] at hx457_0)
            (try rw [Addr.add_zero'] at hx457_0)
            (try rw [show ((0 : Int)).toNat = 0 from rfl] at hx457_1)
            (try rw [show 0 * 5 = 0 from rfl] at hx457_1)
            (try rw [Addr.add_zero'] at hx457_1)
            (try rw [show ((0 : Int)).toNat = 0 from rfl] at hx457_2)
            (try rw [show 0 * 5 = 0 from rfl] at hx457_2)
            (try rw [Addr.add_zero'] at hx457_2)
            (try rw [show ((0 : Int)).toNat = 0 from rfl] at hx457_3)
            (try rw [show 0 * 5 = 0 from rfl] at hx457_3)
            (try rw [Addr.add_zero'] at hx457_3)
            (try rw [show ((0 : Int)).toNat = 0 from rfl] at hx457_4)
            (try rw [show 0 * 5 = 0 from rfl] at hx457_4)
            (try rw [Addr.add_zero'] at hx457_4)
            replace hx457_0 := pw_cell_below HB.out hx457_0
            replace hx457_1 := pw_cell_below HB.out hx457_1
            replace hx457_2 := pw_cell_below HB.out hx457_2
            replace hx457_3 := pw_cell_below HB.out hx457_3
            replace hx457_4 := pw_cell_below HB.out hx457_4
            replace p457 := eq_true p457
            replace q457 := eq_true q457
            go_wp2_with (first | (go_at_call 15; (with_reducible refine (impl_BufferAt.calls x12_1 4 ((rd_T112 (rd_L3 s0_8 x12_1) 0).f2) t458 _ A10.out).mono ?_); rintro e w' ⟨rfl, ⟨nd, rfl⟩⟩; (try first | exact ⟨rfl, _, World.drewN_drewN _ _ _⟩ | exact ⟨rfl, _, Eq.trans (World.drewN_drewN _ _ _) (congrArg (World.drewN _) (Nat.add_assoc _ _ _))⟩); have p459 : 0 ≤ (t458 : Int) := of_decide_eq_true dg_; have q459 : t458 < (s0_5.length : Int) := of_decide_eq_true dg_; obtain ⟨ad459, A459_0, c459_0, e459, hx459_0, hl459_0, hi459_0⟩ := at_L3 HSz15_5 t458 p459 q459; cases e459; replace hx459_0 := pw_cell_below HB.out hx459_0; have HR459_0 := Aside0.mk hi459_0; have HC459_0 := Aside0.mk hl459_0; clear hi459_0 hl459_0; replace p459 := eq_true p459; replace q459 := eq_true q459) | ((with_reducible refine gate_builtin (b := .append) (xs := #[.tmp 36, .tmp 38]) rfl ?_); (try (refine gate_guard (by rfl) ?_; dsimp only)); at_builtin; refine Kd.R_append (Kd.int .i64) w.heap.size rfl (.tmp 36) (.tmp 38) 26 3 (.int .i64 0) 8 rfl Try.underlying26 info3 rfl (by decide) (by omega) u3 x3_1 x12_1 [.int .i64 x12_1] (fun _ => True) (fun _ => False) rfl rfl ?aP (fun _ hk => hk.elim) ?aF ?aO (Below.refl _ _) ?aS ?aL ?_; (case aP => exact rfl); (case aF => exact (fun _ _ => trivial)); (case aO => exact (ra_ HO_3.out)); (case aS => exact (keep_size (w := w) (g := g) (row := none) (by repeat (first | (with_reducible first | exact HK.out | apply KeepBut.set_ | apply keep_drewN | apply keep_drew | apply keep_alloc) | exact HK.out)))); (case aL => have := LMc14.out; omega); intro v461 w16 ho hb hg hat; rw [← Ny460.out] at ho; have n0_ := Aside0.mk (IsS37.grown (by repeat (first | (with_reducible first | exact HI0.out | apply IsS37.alloc | apply IsS37.drewN | apply IsS37.drew | apply IsS37.set_0 | apply IsS37.set_1 | apply IsS37.set_10) | exact HI0.out)) hg (IsS37.own_ne HI0.out HO_3.out (by decide))); have n1_ := Aside0.mk (below_weaken (by repeat (first | (with_reducible first | exact HB.out | apply below_alloc | apply pw_below_drewN | apply below_drew1 | refine below_set ?_ (IsS37.ge HI0.out)) | exact HB.out)) HL.out hb); have n2_ := Aside0.mk (KeepBut.trans (by repeat (first | (with_reducible first | exact HK.out | apply KeepBut.set_ | apply keep_drewN | apply keep_drew | apply keep_alloc) | exact HK.out)) (KeepBut.of_grown hg g) (Kd.R_base2 HO_3.out)); have n3_ := Aside0.mk (ho); clear HI0; clear HB; clear HK; clear HO_3; have HI0 := n0_; have HB := n1_; have HK := n2_; have HO462 := n3_; clear n0_ n1_ n2_ n3_; clear ho hb hg hat))
            repeat (go_quiet (first | (go_at_call 15; (with_reducible refine (impl_BufferAt.calls x12_1 4 ((rd_T112 (rd_L3 s0_8 x12_1) 0).f2) t458 _ A10.out).mono ?_); rintro e w' ⟨rfl, ⟨nd, rfl⟩⟩; (try first | exact ⟨rfl, _, World.drewN_drewN _ _ _⟩ | exact ⟨rfl, _, Eq.trans (World.drewN_drewN _ _ _) (congrArg (World.drewN _) (Nat.add_assoc _ _ _))⟩); have p459 : 0 ≤ (t458 : Int) := of_decide_eq_true dg_; have q459 : t458 < (s0_5.length : Int) := of_decide_eq_true dg_; obtain ⟨ad459, A459_0, c459_0, e459, hx459_0, hl459_0, hi459_0⟩ := at_L3 HSz15_5 t458 p459 q459; cases e459; replace hx459_0 := pw_cell_below HB.out hx459_0; have HR459_0 := Aside0.mk hi459_0; have HC459_0 := Aside0.mk hl459_0; clear hi459_0 hl459_0; replace p459 := eq_true p459; replace q459 := eq_true q459) | ((with_reducible refine gate_builtin (b := .append) (xs := #[.tmp 36, .tmp 38]) rfl ?_); (try (refine gate_guard (by rfl) ?_; dsimp only)); at_builtin; refine Kd.R_append (Kd.int .i64) w.heap.size rfl (.tmp 36) (.tmp 38) 26 3 (.int .i64 0) 8 rfl Try.underlying26 info3 rfl (by decide) (by omega) u3 x3_1 x12_1 [.int .i64 x12_1] (fun _ => True) (fun _ => False) rfl rfl ?aP (fun _ hk => hk.elim) ?aF ?aO (Below.refl _ _) ?aS ?aL ?_; (case aP => exact rfl); (case aF => exact (fun _ _ => trivial)); (case aO => exact (ra_ HO_3.out)); (case aS => exact (keep_size (w := w) (g := g) (row := none) (by repeat (first | (with_reducible first | exact HK.out | apply KeepBut.set_ | apply keep_drewN | apply keep_drew | apply keep_alloc) | exact HK.out)))); (case aL => have := LMc14.out; omega); intro v461 w16 ho hb hg hat; rw [← Ny460.out] at ho; have n0_ := Aside0.mk (IsS37.grown (by repeat (first | (with_reducible first | exact HI0.out | apply IsS37.alloc | apply IsS37.drewN | apply IsS37.drew | apply IsS37.set_0 | apply IsS37.set_1 | apply IsS37.set_10) | exact HI0.out)) hg (IsS37.own_ne HI0.out HO_3.out (by decide))); have n1_ := Aside0.mk (below_weaken (by repeat (first | (with_reducible first | exact HB.out | apply below_alloc | apply pw_below_drewN | apply below_drew1 | refine below_set ?_ (IsS37.ge HI0.out)) | exact HB.out)) HL.out hb); have n2_ := Aside0.mk (KeepBut.trans (by repeat (first | (with_reducible first | exact HK.out | apply KeepBut.set_ | apply keep_drewN | apply keep_drew | apply keep_alloc) | exact HK.out)) (KeepBut.of_grown hg g) (Kd.R_base2 HO_3.out)); have n3_ := Aside0.mk (ho); clear HI0; clear HB; clear HK; clear HO_3; have HI0 := n0_; have HB := n1_; have HK := n2_; have HO462 := n3_; clear n0_ n1_ n2_ n3_; clear ho hb hg hat)); try go_wp2_with (first | (go_at_call 15; (with_reducible refine (impl_BufferAt.calls x12_1 4 ((rd_T112 (rd_L3 s0_8 x12_1) 0).f2) t458 _ A10.out).mono ?_); rintro e w' ⟨rfl, ⟨nd, rfl⟩⟩; (try first | exact ⟨rfl, _, World.drewN_drewN _ _ _⟩ | exact ⟨rfl, _, Eq.trans (World.drewN_drewN _ _ _) (congrArg (World.drewN _) (Nat.add_assoc _ _ _))⟩); have p459 : 0 ≤ (t458 : Int) := of_decide_eq_true dg_; have q459 : t458 < (s0_5.length : Int) := of_decide_eq_true dg_; obtain ⟨ad459, A459_0, c459_0, e459, hx459_0, hl459_0, hi459_0⟩ := at_L3 HSz15_5 t458 p459 q459; cases e459; replace hx459_0 := pw_cell_below HB.out hx459_0; have HR459_0 := Aside0.mk hi459_0; have HC459_0 := Aside0.mk hl459_0; clear hi459_0 hl459_0; replace p459 := eq_true p459; replace q459 := eq_true q459) | ((with_reducible refine gate_builtin (b := .append) (xs := #[.tmp 36, .tmp 38]) rfl ?_); (try (refine gate_guard (by rfl) ?_; dsimp only)); at_builtin; refine Kd.R_append (Kd.int .i64) w.heap.size rfl (.tmp 36) (.tmp 38) 26 3 (.int .i64 0) 8 rfl Try.underlying26 info3 rfl (by decide) (by omega) u3 x3_1 x12_1 [.int .i64 x12_1] (fun _ => True) (fun _ => False) rfl rfl ?aP (fun _ hk => hk.elim) ?aF ?aO (Below.refl _ _) ?aS ?aL ?_; (case aP => exact rfl); (case aF => exact (fun _ _ => trivial)); (case aO => exact (ra_ HO_3.out)); (case aS => exact (keep_size (w := w) (g := g) (row := none) (by repeat (first | (with_reducible first | exact HK.out | apply KeepBut.set_ | apply keep_drewN | apply keep_drew | apply keep_alloc) | exact HK.out)))); (case aL => have := LMc14.out; omega); intro v461 w16 ho hb hg hat; rw [← Ny460.out] at ho; have n0_ := Aside0.mk (IsS37.grown (by repeat (first | (with_reducible first | exact HI0.out | apply IsS37.alloc | apply IsS37.drewN | apply IsS37.drew | apply IsS37.set_0 | apply IsS37.set_1 | apply IsS37.set_10) | exact HI0.out)) hg (IsS37.own_ne HI0.out HO_3.out (by decide))); have n1_ := Aside0.mk (below_weaken (by repeat (first | (with_reducible first | exact HB.out | apply below_alloc | apply pw_below_drewN | apply below_drew1 | refine below_set ?_ (IsS37.ge HI0.out)) | exact HB.out)) HL.out hb); have n2_ := Aside0.mk (KeepBut.trans (by repeat (first | (with_reducible first | exact HK.out | apply KeepBut.set_ | apply keep_drewN | apply keep_drew | apply keep_alloc) | exact HK.out)) (KeepBut.of_grown hg g) (Kd.R_base2 HO_3.out)); have n3_ := Aside0.mk (ho); clear HI0; clear HB; clear HK; clear HO_3; have HI0 := n0_; have HB := n1_; have HK := n2_; have HO462 := n3_; clear n0_ n1_ n2_ n3_; clear ho hb hg hat)))
            go_roundg k1
            case measure => have := HK1.out; omega
            case rel => exact ⟨(y460), (wrap64 (x12_1 + 1)), ef_, H', ⟨by have := HK1.out; omega⟩, ⟨by (with_reducible repeat (first | apply Kd.R_alloc | apply Kd.R_drewN | apply Kd.R_drew)); exact HO462.out⟩, ⟨by repeat (first | (with_reducible first | exact HI0.out | apply IsS37.alloc | apply IsS37.drewN | apply IsS37.drew | apply IsS37.set_0 | apply IsS37.set_1 | apply IsS37.set_10) | exact HI0.out)⟩, ⟨by repeat (first | (with_reducible first | exact HK.out | apply KeepBut.set_ | apply keep_drewN | apply keep_drew | apply keep_alloc) | exact HK.out)⟩, ⟨by repeat (first | (with_reducible first | exact HB.out | apply below_alloc | apply pw_below_drewN | apply below_drew1 | refine below_set ?_ (IsS37.ge HI0.out)) | exact HB.out)⟩⟩
           ·rw [if_neg c14] at H
            exact absurd H (by simp)
          ·rw [if_neg c13] at H
           have c13b0 : decide (((rd_L3 s0_5 t458).length : Int) < 3) = false := decide_eq_false c13
           have c13b1 : decide ((rd_L3 s0_5 t458).length < 3) = false := decide_eq_false (by omega)
           clear c13
           have H' := Aside0.mk H
           clear H
           obtain ⟨ASz17_2, cSz17_2, ASz17_3, cSz17_3, ASz17_4, cSz17_4, ASz17_5, cSz17_5, ASz17_6, cSz17_6, ASz17_7, cSz17_7, ASz17_8, cSz17_8, ASz17_9, cSz17_9, HGz17, hgz17, HSz17_2, HSz17_3, HSz17_4, HSz17_5, HSz17_6, HSz17_7, HSz17_8, HSz17_9⟩ := HI0.out
           have hcz17_0 := cellS37_0 HGz17
           have hcz17_1 := cellS37_1 HGz17
           have hcz17_2 := cellS37_2 HGz17
           have hcz17_3 := cellS37_3 HGz17
           have hcz17_4 := cellS37_4 HGz17
           have hcz17_5 := cellS37_5 HGz17
           have hcz17_6 := cellS37_6 HGz17
           have hcz17_7 := cellS37_7 HGz17
           have hcz17_8 := cellS37_8 HGz17
           have hcz17_9 := cellS37_9 HGz17
           have hcz17_10 := cellS37_10 HGz17
           have hfz17_0 := blk_frozen HGz17 0
           have hfz17_1 := blk_frozen HGz17 1
           have hfz17_10 := blk_frozen HGz17 10
           clear HGz17 hgz17
           have p456 : 0 ≤ (x12_1 : Int) := of_decide_eq_true dg_
           have q456 : x12_1 < (s0_8.length : Int) := of_decide_eq_true dg_
           obtain ⟨ad456, A456_0, c456_0, e456, hx456_0, hl456_0, hi456_0⟩ := at_L3 HSz4_8 x12_1 p456 q456
           cases e456
           replace hx456_0 := pw_cell_below HB.out hx456_0
           have HR456_0 := Aside0.mk hi456_0
           have HC456_0 := Aside0.mk hl456_0
           clear hi456_0 hl456_0
           replace p456 := eq_true p456
           replace q456 := eq_true q456
           have p457 : 0 ≤ (0 : Int) := (by omega)
           have q457 : 0 < ((rd_L3 s0_8 x12_1).length : Int) := of_decide_eq_true dg_
           obtain ⟨ad457, e457, hx457_0, hx457_1, hx457_2, hx457_3, hx457_4⟩ := at_T112 HR456_0.out 0 p457 q457
           cases e457
           have qi457 : (0 < (rd_L3 s0_8 x12_1).length) = True := eq_true (by omega)
           (try rw [show ((0 : Int)).toNat = 0 from rfl] at hx457_0)
           (try rw [show 0 * 5 = 0 from rfl] at hx457_0)
           (try rw [Addr.add_zero'] at hx457_0)
           (try rw [show ((0 : Int)).toNat = 0 from rfl] at hx457_1)
           (try rw [show 0 * 5 = 0 from rfl] at hx457_1)
           (try rw [Addr.add_zero'] at hx457_1)
           (try rw [show ((0 : Int)).toNat = 0 from rfl] at hx457_2)
           (try rw [show 0 * 5 = 0 from rfl] at hx457_2)
           (try rw [Addr.add_zero'] at hx457_2)
           (try rw [show ((0 : Int)).toNat = 0 from rfl] at hx457_3)
           (try rw [show 0 * 5 = 0 from rfl] at hx457_3)
           (try rw [Addr.add_zero'] at hx457_3)
           (try rw [show ((0 : Int)).toNat = 0 from rfl] at hx457_4)
           (try rw [show 0 * 5 = 0 from rfl] at hx457_4)
           (try rw [Addr.add_zero'] at hx457_4)
           replace hx457_0 := pw_cell_below HB.out hx457_0
           replace hx457_1 := pw_cell_below HB.out hx457_1
           replace hx457_2 := pw_cell_below HB.out hx457_2
           replace hx457_3 := pw_cell_below HB.out hx457_3
           replace hx457_4 := pw_cell_below HB.out hx457_4
           replace p457 := eq_true p457
           replace q457 := eq_true q457
           go_wp2_with (first | (go_at_call 15; (with_reducible refine (impl_BufferAt.calls x12_1 4 ((rd_T112 (rd_L3 s0_8 x12_1) 0).f2) t458 _ A10.out).mono ?_); rintro e w' ⟨rfl, ⟨nd, rfl⟩⟩; (try first | exact ⟨rfl, _, World.drewN_drewN _ _ _⟩ | exact ⟨rfl, _, Eq.trans (World.drewN_drewN _ _ _) (congrArg (World.drewN _) (Nat.add_assoc _ _ _))⟩); have p459 : 0 ≤ (t458 : Int) := of_decide_eq_true dg_; have q459 : t458 < (s0_5.length : Int) := of_decide_eq_true dg_; obtain ⟨ad459, A459_0, c459_0, e459, hx459_0, hl459_0, hi459_0⟩ := at_L3 HSz17_5 t458 p459 q459; cases e459; replace hx459_0 := pw_cell_below HB.out hx459_0; have HR459_0 := Aside0.mk hi459_0; have HC459_0 := Aside0.mk hl459_0; clear hi459_0 hl459_0; replace p459 := eq_true p459; replace q459 := eq_true q459))
           repeat (go_quiet (first | (go_at_call 15; (with_reducible refine (impl_BufferAt.calls x12_1 4 ((rd_T112 (rd_L3 s0_8 x12_1) 0).f2) t458 _ A10.out).mono ?_); rintro e w' ⟨rfl, ⟨nd, rfl⟩⟩; (try first | exact ⟨rfl, _, World.drewN_drewN _ _ _⟩ | exact ⟨rfl, _, Eq.trans (World.drewN_drewN _ _ _) (congrArg (World.drewN _) (Nat.add_assoc _ _ _))⟩); have p459 : 0 ≤ (t458 : Int) := of_decide_eq_true dg_; have q459 : t458 < (s0_5.length : Int) := of_decide_eq_true dg_; obtain ⟨ad459, A459_0, c459_0, e459, hx459_0, hl459_0, hi459_0⟩ := at_L3 HSz17_5 t458 p459 q459; cases e459; replace hx459_0 := pw_cell_below HB.out hx459_0; have HR459_0 := Aside0.mk hi459_0; have HC459_0 := Aside0.mk hl459_0; clear hi459_0 hl459_0; replace p459 := eq_true p459; replace q459 := eq_true q459)); try go_wp2_with (first | (go_at_call 15; (with_reducible refine (impl_BufferAt.calls x12_1 4 ((rd_T112 (rd_L3 s0_8 x12_1) 0).f2) t458 _ A10.out).mono ?_); rintro e w' ⟨rfl, ⟨nd, rfl⟩⟩; (try first | exact ⟨rfl, _, World.drewN_drewN _ _ _⟩ | exact ⟨rfl, _, Eq.trans (World.drewN_drewN _ _ _) (congrArg (World.drewN _) (Nat.add_assoc _ _ _))⟩); have p459 : 0 ≤ (t458 : Int) := of_decide_eq_true dg_; have q459 : t458 < (s0_5.length : Int) := of_decide_eq_true dg_; obtain ⟨ad459, A459_0, c459_0, e459, hx459_0, hl459_0, hi459_0⟩ := at_L3 HSz17_5 t458 p459 q459; cases e459; replace hx459_0 := pw_cell_below HB.out hx459_0; have HR459_0 := Aside0.mk hi459_0; have HC459_0 := Aside0.mk hl459_0; clear hi459_0 hl459_0; replace p459 := eq_true p459; replace q459 := eq_true q459)))
           go_roundg k1
           case measure => have := HK1.out; omega
           case rel => exact ⟨(x3_1), (wrap64 (x12_1 + 1)), ef_, H', ⟨by have := HK1.out; omega⟩, ⟨by (with_reducible repeat (first | apply Kd.R_alloc | apply Kd.R_drewN | apply Kd.R_drew)); exact HO_3.out⟩, ⟨by repeat (first | (with_reducible first | exact HI0.out | apply IsS37.alloc | apply IsS37.drewN | apply IsS37.drew | apply IsS37.set_0 | apply IsS37.set_1 | apply IsS37.set_10) | exact HI0.out)⟩, ⟨by repeat (first | (with_reducible first | exact HK.out | apply KeepBut.set_ | apply keep_drewN | apply keep_drew | apply keep_alloc) | exact HK.out)⟩, ⟨by repeat (first | (with_reducible first | exact HB.out | apply below_alloc | apply pw_below_drewN | apply below_drew1 | refine below_set ?_ (IsS37.ge HI0.out)) | exact HB.out)⟩⟩
         ·rw [if_neg c12] at H
          exact absurd H (by simp)
        ·rw [if_neg c11] at H
         exact absurd H (by simp)
       ·rw [if_neg c9] at H
        exact absurd H (by simp)
      ·rw [if_neg c8] at H
       have c8b0 : decide (0 < ((rd_L3 s0_8 x12_1).length : Int)) = false := decide_eq_false c8
       have c8b1 : decide (0 < (rd_L3 s0_8 x12_1).length) = false := decide_eq_false (by omega)
       clear c8
       have H' := Aside0.mk H
       clear H
       obtain ⟨ASz18_2, cSz18_2, ASz18_3, cSz18_3, ASz18_4, cSz18_4, ASz18_5, cSz18_5, ASz18_6, cSz18_6, ASz18_7, cSz18_7, ASz18_8, cSz18_8, ASz18_9, cSz18_9, HGz18, hgz18, HSz18_2, HSz18_3, HSz18_4, HSz18_5, HSz18_6, HSz18_7, HSz18_8, HSz18_9⟩ := HI0.out
       have hcz18_0 := cellS37_0 HGz18
       have hcz18_1 := cellS37_1 HGz18
       have hcz18_2 := cellS37_2 HGz18
       have hcz18_3 := cellS37_3 HGz18
       have hcz18_4 := cellS37_4 HGz18
       have hcz18_5 := cellS37_5 HGz18
       have hcz18_6 := cellS37_6 HGz18
       have hcz18_7 := cellS37_7 HGz18
       have hcz18_8 := cellS37_8 HGz18
       have hcz18_9 := cellS37_9 HGz18
       have hcz18_10 := cellS37_10 HGz18
       have hfz18_0 := blk_frozen HGz18 0
       have hfz18_1 := blk_frozen HGz18 1
       have hfz18_10 := blk_frozen HGz18 10
       clear HGz18 hgz18
       have p456 : 0 ≤ (x12_1 : Int) := of_decide_eq_true dg_
       have q456 : x12_1 < (s0_8.length : Int) := of_decide_eq_true dg_
       obtain ⟨ad456, A456_0, c456_0, e456, hx456_0, hl456_0, hi456_0⟩ := at_L3 HSz4_8 x12_1 p456 q456
       cases e456
       replace hx456_0 := pw_cell_below HB.out hx456_0
       have HR456_0 := Aside0.mk hi456_0
       have HC456_0 := Aside0.mk hl456_0
       clear hi456_0 hl456_0
       replace p456 := eq_true p456
       replace q456 := eq_true q456
       go_wp2
       repeat (go_quiet (fail); try go_wp2)
       go_roundg k1
       case measure => have := HK1.out; omega
       case rel => exact ⟨(x3_1), (wrap64 (x12_1 + 1)), ef_, H', ⟨by have := HK1.out; omega⟩, ⟨by (with_reducible repeat (first | apply Kd.R_alloc | apply Kd.R_drewN | apply Kd.R_drew)); exact HO_3.out⟩, ⟨by repeat (first | (with_reducible first | exact HI0.out | apply IsS37.alloc | apply IsS37.drewN | apply IsS37.drew | apply IsS37.set_0 | apply IsS37.set_1 | apply IsS37.set_10) | exact HI0.out)⟩, ⟨by repeat (first | (with_reducible first | exact HK.out | apply KeepBut.set_ | apply keep_drewN | apply keep_drew | apply keep_alloc) | exact HK.out)⟩, ⟨by repeat (first | (with_reducible first | exact HB.out | apply below_alloc | apply pw_below_drewN | apply below_drew1 | refine below_set ?_ (IsS37.ge HI0.out)) | exact HB.out)⟩⟩
     ·rw [if_neg c7] at H
      exact absurd H (by simp)
    ·rw [if_neg c6] at H
     exact absurd H (by simp)
   ·rw [if_neg c5] at H
    have c5b0 : decide (x12_1 < (s0_8.length : Int)) = false := decide_eq_false c5
    clear c5
    simp only [Option.some.injEq, Prod.mk.injEq] at H
    obtain ⟨rfl, rfl, rfl, rfl⟩ := H
    go_wp2
    repeat (go_quiet (fail); try go_wp2)
    go_ret
    exact ⟨_, fin_, by (with_reducible repeat (first | apply Kd.R_alloc | apply Kd.R_drewN | apply Kd.R_drew)); exact HO_3.out, by repeat (first | (with_reducible first | exact HI0.out | apply IsS37.alloc | apply IsS37.drewN | apply IsS37.drew | apply IsS37.set_0 | apply IsS37.set_1 | apply IsS37.set_10) | exact HI0.out), by repeat (first | (with_reducible first | exact HB.out | apply below_alloc | apply pw_below_drewN | apply below_drew1 | refine below_set ?_ (IsS37.ge HI0.out)) | exact HB.out), by repeat (first | (with_reducible first | exact HK.out | apply KeepBut.set_ | apply keep_drewN | apply keep_drew | apply keep_alloc) | exact HK.out)⟩

/-! ### impl_Entering: function 31 -/
def impl_Entering.f (k : Nat) (a0_0 : Int) (a0_1 : Int) (l0_2 : List Int) (l0_3 : List Int) (l0_4 : List Int) (l0_5 : List (List S112)) (l0_6 : List Int) (l0_7 : List Int) (l0_8 : List (List S112)) (l0_9 : List (List S112)) (a0_10 : Int) : Option (List Int) := (impl_NetOk.f k a0_0 a0_1 l0_2 l0_3 l0_4 l0_5 l0_6 l0_7 l0_8 l0_9 a0_10).bind fun b1 => if b1 = true then ((impl_Net_entering.f k a0_0 a0_1 l0_2 l0_3 l0_4 l0_5 l0_6 l0_7 l0_8 l0_9 a0_10).bind fun q => some q.1) else some []
theorem impl_Entering.mono (a0_0 : Int) (a0_1 : Int) (l0_2 : List Int) (l0_3 : List Int) (l0_4 : List Int) (l0_5 : List (List S112)) (l0_6 : List Int) (l0_7 : List Int) (l0_8 : List (List S112)) (l0_9 : List (List S112)) (a0_10 : Int) : ∀ k, LeO (impl_Entering.f k a0_0 a0_1 l0_2 l0_3 l0_4 l0_5 l0_6 l0_7 l0_8 l0_9 a0_10) (impl_Entering.f (k + 1) a0_0 a0_1 l0_2 l0_3 l0_4 l0_5 l0_6 l0_7 l0_8 l0_9 a0_10) := by
 intro k
 unfold impl_Entering.f
 exact LeO.bind (impl_NetOk.mono _ _ _ _ _ _ _ _ _ _ _ _) (fun _ => LeO.ite (LeO.bind (impl_Net_entering.mono _ _ _ _ _ _ _ _ _ _ _ _) (fun _ => LeO.refl _)) (LeO.refl _))
set_option maxHeartbeats 4000000 in
set_option maxRecDepth 100000 in
theorem impl_Entering.calls (k : Nat) (a0_0 : Int) (a0_1 : Int) (A0_2 : Option Addr) (c0_2 : Nat) (l0_2 : List Int) (A0_3 : Option Addr) (c0_3 : Nat) (l0_3 : List Int) (A0_4 : Option Addr) (c0_4 : Nat) (l0_4 : List Int) (A0_5 : Option Addr) (c0_5 : Nat) (l0_5 : List (List S112)) (A0_6 : Option Addr) (c0_6 : Nat) (l0_6 : List Int) (A0_7 : Option Addr) (c0_7 : Nat) (l0_7 : List Int) (A0_8 : Option Addr) (c0_8 : Nat) (l0_8 : List (List S112)) (A0_9 : Option Addr) (c0_9 : Nat) (l0_9 : List (List S112)) (a0_10 : Int) (r : List Int) (w : World) (hr0_2 : Kd.C (Kd.int .i64) w A0_2 l0_2.length l0_2) (hc0_2 : l0_2.length ≤ c0_2) (hr0_3 : Kd.C (Kd.int .i64) w A0_3 l0_3.length l0_3) (hc0_3 : l0_3.length ≤ c0_3) (hr0_4 : Kd.C (Kd.int .i64) w A0_4 l0_4.length l0_4) (hc0_4 : l0_4.length ≤ c0_4) (hr0_5 : Kd.C (Kd.slice 112 k112) w A0_5 l0_5.length l0_5) (hc0_5 : l0_5.length ≤ c0_5) (hr0_6 : Kd.C (Kd.int .i64) w A0_6 l0_6.length l0_6) (hc0_6 : l0_6.length ≤ c0_6) (hr0_7 : Kd.C (Kd.int .i64) w A0_7 l0_7.length l0_7) (hc0_7 : l0_7.length ≤ c0_7) (hr0_8 : Kd.C (Kd.slice 112 k112) w A0_8 l0_8.length l0_8) (hc0_8 : l0_8.length ≤ c0_8) (hr0_9 : Kd.C (Kd.slice 112 k112) w A0_9 l0_9.length l0_9) (hc0_9 : l0_9.length ≤ c0_9) (h : impl_Entering.f k a0_0 a0_1 l0_2 l0_3 l0_4 l0_5 l0_6 l0_7 l0_8 l0_9 a0_10 = some r) :
  Calls Try.prog 31 #[.agg #[.int .i64 a0_0, .int .i64 a0_1, .slice A0_2 l0_2.length c0_2, .slice A0_3 l0_3.length c0_3, .slice A0_4 l0_4.length c0_4, .slice A0_5 l0_5.length c0_5, .slice A0_6 l0_6.length c0_6, .slice A0_7 l0_7.length c0_7, .slice A0_8 l0_8.length c0_8, .slice A0_9 l0_9.length c0_9, .int .i64 a0_10]] w fun e w' => ∃ v0_ : Value, e = .returned (v0_) ∧ Kd.R (Kd.int .i64) 3 w' w.heap.size (fun _ => True) v0_ r ∧ Below w.heap.size w w' := by
 have HR0_2 := Aside0.mk hr0_2
 have HC0_2 := Aside0.mk hc0_2
 have HR0_3 := Aside0.mk hr0_3
 have HC0_3 := Aside0.mk hc0_3
 have HR0_4 := Aside0.mk hr0_4
 have HC0_4 := Aside0.mk hc0_4
 have HR0_5 := Aside0.mk hr0_5
 have HC0_5 := Aside0.mk hc0_5
 have HR0_6 := Aside0.mk hr0_6
 have HC0_6 := Aside0.mk hc0_6
 have HR0_7 := Aside0.mk hr0_7
 have HC0_7 := Aside0.mk hc0_7
 have HR0_8 := Aside0.mk hr0_8
 have HC0_8 := Aside0.mk hc0_8
 have HR0_9 := Aside0.mk hr0_9
 have HC0_9 := Aside0.mk hc0_9
 clear hr0_2 hc0_2 hr0_3 hc0_3 hr0_4 hc0_4 hr0_5 hc0_5 hr0_6 hc0_6 hr0_7 hc0_7 hr0_8 hc0_8 hr0_9 hc0_9
 have HB := Aside0.mk (Below.refl w.heap.size w)
 have hu1_ := Try.underlying37
 unfold impl_Entering.f at h
 obtain ⟨b1, A10, h⟩ := Option.bind_eq_some_iff.1 h
 have A1 := Aside0.mk A10
 clear A10
 cases b1 with
 | false =>
  have h1 : some ([] : List Int) = some r := h
  obtain rfl := Option.some.inj h1
  clear h h1
  go_enter Try.func31, Try.ntmps31
  go_wp2_with (first | ((with_reducible refine gate_dst (N := 1) rfl ?_); refine box_event ?hg (N := 1) ?hd (cs := #[.int .i64 a0_0, .int .i64 a0_1, .slice A0_2 l0_2.length c0_2, .slice A0_3 l0_3.length c0_3, .slice A0_4 l0_4.length c0_4, .slice A0_5 l0_5.length c0_5, .slice A0_6 l0_6.length c0_6, .slice A0_7 l0_7.length c0_7, .slice A0_8 l0_8.length c0_8, .slice A0_9 l0_9.length c0_9, .int .i64 a0_10]) (t := 37) ?hr ?_; (case hd => rfl); (case hg => rfl); (case hr => first | (go_simp; done) | (go_simp; rfl)); intro gb hg w1 hbox hb; have BK := Aside0.mk hbox; have GE := Aside0.mk (show w.heap.size ≤ gb by rw [hg]; exact bz_ HB.out); replace HB := Aside0.mk (bs_ HB.out hb); clear hb hbox hg; obtain ⟨z0, z1, z2, z3, z4, z5, z6, z7, z8, z9, z10, f0, f1, f2, f3, f4, f5, f6, f7, f8, f9, f10⟩ := cz11_ BK.out) | (go_at_call 12; (with_reducible refine (impl_NetOk.calls k a0_0 a0_1 _ _ l0_2 _ _ l0_3 _ _ l0_4 _ _ l0_5 _ _ l0_6 _ _ l0_7 _ _ l0_8 _ _ l0_9 a0_10 _ _ ?side2 HC0_2.out ?side3 HC0_3.out ?side4 HC0_4.out ?side5 HC0_5.out ?side6 HC0_6.out ?side7 HC0_7.out ?side8 HC0_8.out ?side9 HC0_9.out A1.out).mono ?_); (case side2 => exact cb_ HR0_2.out HB.out); (case side3 => exact cb_ HR0_3.out HB.out); (case side4 => exact cb_ HR0_4.out HB.out); (case side5 => exact cb_ HR0_5.out HB.out); (case side6 => exact cb_ HR0_6.out HB.out); (case side7 => exact cb_ HR0_7.out HB.out); (case side8 => exact cb_ HR0_8.out HB.out); (case side9 => exact cb_ HR0_9.out HB.out); rintro e w2 ⟨rfl, hb⟩; clear z0 z1 z2 z3 z4 z5 z6 z7 z8 z9 z10 f0 f1 f2 f3 f4 f5 f6 f7 f8 f9 f10; replace BK := Aside0.mk (bk_ BK.out hb); replace HB := Aside0.mk (bs_ HB.out hb); clear hb; obtain ⟨z0, z1, z2, z3, z4, z5, z6, z7, z8, z9, z10, f0, f1, f2, f3, f4, f5, f6, f7, f8, f9, f10⟩ := cz11_ BK.out))
  go_ret
  exact ⟨_, fin_, Kd.R_nil _ _ _ _ _, bb_ HB.out⟩
 | true =>
 rw [if_pos rfl] at h
 obtain ⟨⟨q1, q2, q3, q4⟩, A30, h⟩ := Option.bind_eq_some_iff.1 h
 have A3 := Aside0.mk A30
 clear A30
 have h1 : some q1 = some r := h
 obtain rfl := Option.some.inj h1
 clear h h1
 go_enter Try.func31, Try.ntmps31
 go_wp2_with (first | ((with_reducible refine gate_dst (N := 1) rfl ?_); refine box_event ?hg (N := 1) ?hd (cs := #[.int .i64 a0_0, .int .i64 a0_1, .slice A0_2 l0_2.length c0_2, .slice A0_3 l0_3.length c0_3, .slice A0_4 l0_4.length c0_4, .slice A0_5 l0_5.length c0_5, .slice A0_6 l0_6.length c0_6, .slice A0_7 l0_7.length c0_7, .slice A0_8 l0_8.length c0_8, .slice A0_9 l0_9.length c0_9, .int .i64 a0_10]) (t := 37) ?hr ?_; (case hd => rfl); (case hg => rfl); (case hr => first | (go_simp; done) | (go_simp; rfl)); intro gb hg w1 hbox hb; have BK := Aside0.mk hbox; have GE := Aside0.mk (show w.heap.size ≤ gb by rw [hg]; exact bz_ HB.out); replace HB := Aside0.mk (bs_ HB.out hb); clear hb hbox hg; obtain ⟨z0, z1, z2, z3, z4, z5, z6, z7, z8, z9, z10, f0, f1, f2, f3, f4, f5, f6, f7, f8, f9, f10⟩ := cz11_ BK.out) | (go_at_call 12; (with_reducible refine (impl_NetOk.calls k a0_0 a0_1 _ _ l0_2 _ _ l0_3 _ _ l0_4 _ _ l0_5 _ _ l0_6 _ _ l0_7 _ _ l0_8 _ _ l0_9 a0_10 _ _ ?side2 HC0_2.out ?side3 HC0_3.out ?side4 HC0_4.out ?side5 HC0_5.out ?side6 HC0_6.out ?side7 HC0_7.out ?side8 HC0_8.out ?side9 HC0_9.out A1.out).mono ?_); (case side2 => exact cb_ HR0_2.out HB.out); (case side3 => exact cb_ HR0_3.out HB.out); (case side4 => exact cb_ HR0_4.out HB.out); (case side5 => exact cb_ HR0_5.out HB.out); (case side6 => exact cb_ HR0_6.out HB.out); (case side7 => exact cb_ HR0_7.out HB.out); (case side8 => exact cb_ HR0_8.out HB.out); (case side9 => exact cb_ HR0_9.out HB.out); rintro e w2 ⟨rfl, hb⟩; clear z0 z1 z2 z3 z4 z5 z6 z7 z8 z9 z10 f0 f1 f2 f3 f4 f5 f6 f7 f8 f9 f10; replace BK := Aside0.mk (bk_ BK.out hb); replace HB := Aside0.mk (bs_ HB.out hb); clear hb; obtain ⟨z0, z1, z2, z3, z4, z5, z6, z7, z8, z9, z10, f0, f1, f2, f3, f4, f5, f6, f7, f8, f9, f10⟩ := cz11_ BK.out) | (go_at_call 72; (with_reducible refine (impl_Net_entering.calls k gb a0_0 a0_1 l0_2 l0_3 l0_4 l0_5 l0_6 l0_7 l0_8 l0_9 a0_10 _ _ _ _ w _ ?side1 ?side2 A3.out).mono ?_); (case side1 => exact ⟨A0_2, c0_2, A0_3, c0_3, A0_4, c0_4, A0_5, c0_5, A0_6, c0_6, A0_7, c0_7, A0_8, c0_8, A0_9, c0_9, bq_ BK.out, GE.out, HR0_2.out, HR0_3.out, HR0_4.out, HR0_5.out, HR0_6.out, HR0_7.out, HR0_8.out, HR0_9.out⟩); (case side2 => exact bb_ HB.out); rintro e w3 ⟨v, rfl, ho, _, hb, _⟩; have HO := Aside0.mk (Kd.R_lower ho (bz_ HB.out)); replace HB := Aside0.mk hb; clear ho hb))
 go_ret
 exact ⟨_, fin_, ra_ HO.out, bb_ HB.out⟩

/-! ### laws_heldIntS: function 34 -/
def laws_heldIntS.l0 : Nat → List Int → Int → Int → Option (Int)
 | 0, _, _, _ => none
 | k + 1, x0, x1, x5 => if x5 < (x0.length : Int) then (if 0 ≤ x5 then (if (rd x0 x5) = x1 then (laws_heldIntS.l0 k x0 (wrap64 (x1 + 1)) (wrap64 (x5 + 1))) else (none)) else (none)) else (some x1)
def laws_heldIntS.f (k : Nat) (l0 : List Int) (a1 : Int) : Option (Int) := laws_heldIntS.l0 k l0 a1 0
theorem laws_heldIntS.mono_l : ∀ k, (∀ y0 y1 y2, LeO (laws_heldIntS.l0 k y0 y1 y2) (laws_heldIntS.l0 (k + 1) y0 y1 y2))
 | 0 => fun _ _ _ r h => by simp [laws_heldIntS.l0] at h
 | k + 1 => by
  have ih0 := laws_heldIntS.mono_l k
  ·intro y0 y1 y2
   unfold laws_heldIntS.l0
   repeat' first
   | (with_reducible exact ih0 _ _ _)
   | (with_reducible exact LeO.refl _)
   | (with_reducible exact LeO.none _)
   | (with_reducible refine LeO.ite ?_ ?_)
   | (with_reducible refine LeO.bind ?_ (fun _ => ?_))
   | exact ih0 _ _ _
   | exact LeO.none _
   | refine LeO.ite ?_ ?_
   | refine LeO.bind ?_ (fun _ => ?_)
theorem laws_heldIntS.mono : ∀ a0 a1 k, LeO (laws_heldIntS.f k a0 a1) (laws_heldIntS.f (k + 1) a0 a1) := by
 intro a0 a1 k
 have ih0 := laws_heldIntS.mono_l k
 unfold laws_heldIntS.f
 repeat' first
   | (with_reducible exact ih0 _ _ _)
   | (with_reducible exact LeO.refl _)
   | (with_reducible exact LeO.none _)
   | (with_reducible refine LeO.ite ?_ ?_)
   | (with_reducible refine LeO.bind ?_ (fun _ => ?_))
   | exact ih0 _ _ _
   | exact LeO.none _
   | refine LeO.ite ?_ ?_
   | refine LeO.bind ?_ (fun _ => ?_)
set_option maxHeartbeats 8000000 in
set_option maxRecDepth 100000 in
theorem laws_heldIntS.calls (k : Nat) (A0 : Option Addr) (c0 : Nat) (l0 : List Int) (a1 : Int) (r : Int) (w : World) (hr0 : Kd.C (Kd.int .i64) w A0 l0.length l0) (hc0 : l0.length ≤ c0) (h : laws_heldIntS.f k l0 a1 = some r) :
  Calls Try.prog 34 #[.slice A0 l0.length c0, .int .i64 a1] w fun e w' => e = .returned (.int .i64 r) ∧ Drawn0 w w' := by
 have HR0 := Aside0.mk hr0
 have HC0 := Aside0.mk hc0
 clear hr0 hc0
 have H : (laws_heldIntS.l0 k l0 a1 0) = some r := h
 clear h
 have H' := Aside0.mk H
 clear H
 go_enter Try.func34, Try.ntmps34
 go_wp2
 go_loopg [1, 5] k (fun kq v1 v5 w' => ∃ (x1_1 : Int) (x5_1 : Int), v1 = .int .i64 x1_1 ∧ v5 = .int .i64 x5_1 ∧ Aside0 (laws_heldIntS.l0 kq l0 x1_1 x5_1 = some r) ∧ Aside0 (kq ≤ k) ∧ Drawn0 w w')
 case atStart => exact ⟨(a1), (0), ef_, ef_, H', ⟨Nat.le_refl _⟩, by repeat (first | exact Drawn0.refl _ | apply Drawn0.step)⟩
 case round =>
  clear H'
  obtain ⟨x1_1, x5_1, rfl, rfl, HA, HK1, ⟨m1, rfl⟩⟩ := hrel
  cases gk with
  | zero => exact absurd HA.out (by simp [laws_heldIntS.l0])
  | succ k1 =>
   have H := HA.out
   clear HA
   simp only [laws_heldIntS.l0] at H
   by_cases c3 : x5_1 < (l0.length : Int)
   ·rw [if_pos c3] at H
    have c3b0 : decide (x5_1 < (l0.length : Int)) = true := decide_eq_true c3
    clear c3
    by_cases c4 : 0 ≤ x5_1
    ·rw [if_pos c4] at H
     have c4b0 : decide (0 ≤ x5_1) = true := decide_eq_true c4
     clear c4
     by_cases c5 : (rd l0 x5_1) = x1_1
     ·rw [if_pos c5] at H
      have c5b0 : ((rd l0 x5_1) == x1_1) = true := beq_iff_eq.mpr c5
      have c5b1 : ((rd l0 x5_1) != x1_1) = false := bne_eq_false_iff_eq.mpr c5
      clear c5
      have H' := Aside0.mk H
      clear H
      have p463 : 0 ≤ (x5_1 : Int) := of_decide_eq_true dg_
      have q463 : x5_1 < (l0.length : Int) := of_decide_eq_true dg_
      obtain ⟨ad463, e463, hx463_0⟩ := Kd.at_int HR0.out x5_1 p463 q463
      cases e463
      replace p463 := eq_true p463
      replace q463 := eq_true q463
      go_wp2
      go_roundg k1
      case measure => have := HK1.out; omega
      case rel => exact ⟨(wrap64 (x1_1 + 1)), (wrap64 (x5_1 + 1)), ef_, ef_, H', ⟨by have := HK1.out; omega⟩, by repeat (first | exact Drawn0.refl _ | apply Drawn0.step)⟩
     ·rw [if_neg c5] at H
      exact absurd H (by simp)
    ·rw [if_neg c4] at H
     exact absurd H (by simp)
   ·rw [if_neg c3] at H
    have c3b0 : decide (x5_1 < (l0.length : Int)) = false := decide_eq_false c3
    clear c3
    obtain rfl := Option.some.inj H
    go_wp2
    go_ret
    exact ⟨by first | rfl | (simp; done) | (simp [*]; done), by repeat (first | exact Drawn0.refl _ | apply Drawn0.step)⟩

/-! ### laws_FnExactEntering: function 5 -/
section
variable {T : Nat → Nat} {B : Nat} {w : World} {v2 v3 v4 v5 v6 v7 v8 v9 : Value} {l2 l3 l4 : List Int} {l5 : List (List S112)} {l6 l7 : List Int} {l8 l9 : List (List S112)}
theorem Marks.drewN (h : Marks T B w v2 v3 v4 v5 v6 v7 v8 v9 l2 l3 l4 l5 l6 l7 l8 l9) (n : Nat) : Marks T B (w.drewN n) v2 v3 v4 v5 v6 v7 v8 v9 l2 l3 l4 l5 l6 l7 l8 l9 := h.below (pw_below_drewN (Below.refl _ _) n)
theorem Marks.drew (h : Marks T B w v2 v3 v4 v5 v6 v7 v8 v9 l2 l3 l4 l5 l6 l7 l8 l9) : Marks T B w.drew v2 v3 v4 v5 v6 v7 v8 v9 l2 l3 l4 l5 l6 l7 l8 l9 := h.below (below_drew (Below.refl _ _))
theorem Marks.alloc (h : Marks T B w v2 v3 v4 v5 v6 v7 v8 v9 l2 l3 l4 l5 l6 l7 l8 l9) (o : Obj) : Marks T B (w.alloc o) v2 v3 v4 v5 v6 v7 v8 v9 l2 l3 l4 l5 l6 l7 l8 l9 := h.below (below_alloc (Below.refl _ _) o)
theorem Marks.far (h : Marks T B w v2 v3 v4 v5 v6 v7 v8 v9 l2 l3 l4 l5 l6 l7 l8 l9) {p : Addr} (hp : T p.block = 0) (u : Value) : Marks T B (w.setCell p u) v2 v3 v4 v5 v6 v7 v8 v9 l2 l3 l4 l5 l6 l7 l8 l9 :=
 ⟨h.lo, fun k hk => by have := h.hi k hk; simpa [World.setCell] using this, Kd.R_far h.h2 (fun k hk e => absurd (hp.symm.trans (show T p.block = 2 from e ▸ hk)) (by decide)) u, Kd.R_far h.h3 (fun k hk e => absurd (hp.symm.trans (show T p.block = 3 from e ▸ hk)) (by decide)) u, Kd.R_far h.h4 (fun k hk e => absurd (hp.symm.trans (show T p.block = 4 from e ▸ hk)) (by decide)) u, Kd.S_far h.h5 (fun k hk e => absurd (hp.symm.trans (show T p.block = 5 from e ▸ hk)) (by decide)) u, Kd.R_far h.h6 (fun k hk e => absurd (hp.symm.trans (show T p.block = 6 from e ▸ hk)) (by decide)) u, Kd.R_far h.h7 (fun k hk e => absurd (hp.symm.trans (show T p.block = 7 from e ▸ hk)) (by decide)) u, Kd.S_far h.h8 (fun k hk e => absurd (hp.symm.trans (show T p.block = 8 from e ▸ hk)) (by decide)) u, Kd.S_far h.h9 (fun k hk e => absurd (hp.symm.trans (show T p.block = 9 from e ▸ hk)) (by decide)) u⟩
theorem mm_ {V W : World} (h : Marks T B V v2 v3 v4 v5 v6 v7 v8 v9 l2 l3 l4 l5 l6 l7 l8 l9) (k : Marks T B V v2 v3 v4 v5 v6 v7 v8 v9 l2 l3 l4 l5 l6 l7 l8 l9 → Marks T B W v2 v3 v4 v5 v6 v7 v8 v9 l2 l3 l4 l5 l6 l7 l8 l9 := by (intro h_; repeat (first | exact h_ | (with_reducible refine Marks.drewN ?_ _) | (with_reducible refine Marks.drew ?_) | (with_reducible refine Marks.alloc ?_ _) | refine Marks.far ?_ (Aside0.out (by assumption)) _))) : Marks T B W v2 v3 v4 v5 v6 v7 v8 v9 l2 l3 l4 l5 l6 l7 l8 l9 := k h
theorem mr2_ {A : Option Addr} {n c : Nat} {V W : World} (h : Marks T B V (.slice A n c) v3 v4 v5 v6 v7 v8 v9 l2 l3 l4 l5 l6 l7 l8 l9) (k : Marks T B V (.slice A n c) v3 v4 v5 v6 v7 v8 v9 l2 l3 l4 l5 l6 l7 l8 l9 → Marks T B W (.slice A n c) v3 v4 v5 v6 v7 v8 v9 l2 l3 l4 l5 l6 l7 l8 l9 := by (intro h_; repeat (first | exact h_ | (with_reducible refine Marks.drewN ?_ _) | (with_reducible refine Marks.drew ?_) | (with_reducible refine Marks.alloc ?_ _) | refine Marks.far ?_ (Aside0.out (by assumption)) _))) : Kd.C (Kd.int .i64) W A l2.length l2 := (Kd.R_reads' (k h).h2).2.2
theorem mr3_ {A : Option Addr} {n c : Nat} {V W : World} (h : Marks T B V v2 (.slice A n c) v4 v5 v6 v7 v8 v9 l2 l3 l4 l5 l6 l7 l8 l9) (k : Marks T B V v2 (.slice A n c) v4 v5 v6 v7 v8 v9 l2 l3 l4 l5 l6 l7 l8 l9 → Marks T B W v2 (.slice A n c) v4 v5 v6 v7 v8 v9 l2 l3 l4 l5 l6 l7 l8 l9 := by (intro h_; repeat (first | exact h_ | (with_reducible refine Marks.drewN ?_ _) | (with_reducible refine Marks.drew ?_) | (with_reducible refine Marks.alloc ?_ _) | refine Marks.far ?_ (Aside0.out (by assumption)) _))) : Kd.C (Kd.int .i64) W A l3.length l3 := (Kd.R_reads' (k h).h3).2.2
theorem mr4_ {A : Option Addr} {n c : Nat} {V W : World} (h : Marks T B V v2 v3 (.slice A n c) v5 v6 v7 v8 v9 l2 l3 l4 l5 l6 l7 l8 l9) (k : Marks T B V v2 v3 (.slice A n c) v5 v6 v7 v8 v9 l2 l3 l4 l5 l6 l7 l8 l9 → Marks T B W v2 v3 (.slice A n c) v5 v6 v7 v8 v9 l2 l3 l4 l5 l6 l7 l8 l9 := by (intro h_; repeat (first | exact h_ | (with_reducible refine Marks.drewN ?_ _) | (with_reducible refine Marks.drew ?_) | (with_reducible refine Marks.alloc ?_ _) | refine Marks.far ?_ (Aside0.out (by assumption)) _))) : Kd.C (Kd.int .i64) W A l4.length l4 := (Kd.R_reads' (k h).h4).2.2
theorem mr5_ {A : Option Addr} {n c : Nat} {V W : World} (h : Marks T B V v2 v3 v4 (.slice A n c) v6 v7 v8 v9 l2 l3 l4 l5 l6 l7 l8 l9) (k : Marks T B V v2 v3 v4 (.slice A n c) v6 v7 v8 v9 l2 l3 l4 l5 l6 l7 l8 l9 → Marks T B W v2 v3 v4 (.slice A n c) v6 v7 v8 v9 l2 l3 l4 l5 l6 l7 l8 l9 := by (intro h_; repeat (first | exact h_ | (with_reducible refine Marks.drewN ?_ _) | (with_reducible refine Marks.drew ?_) | (with_reducible refine Marks.alloc ?_ _) | refine Marks.far ?_ (Aside0.out (by assumption)) _))) : Kd.C (Kd.slice 112 k112) W A l5.length l5 := (Kd.S_reads' (k h).h5).2.2
theorem mr6_ {A : Option Addr} {n c : Nat} {V W : World} (h : Marks T B V v2 v3 v4 v5 (.slice A n c) v7 v8 v9 l2 l3 l4 l5 l6 l7 l8 l9) (k : Marks T B V v2 v3 v4 v5 (.slice A n c) v7 v8 v9 l2 l3 l4 l5 l6 l7 l8 l9 → Marks T B W v2 v3 v4 v5 (.slice A n c) v7 v8 v9 l2 l3 l4 l5 l6 l7 l8 l9 := by (intro h_; repeat (first | exact h_ | (with_reducible refine Marks.drewN ?_ _) | (with_reducible refine Marks.drew ?_) | (with_reducible refine Marks.alloc ?_ _) | refine Marks.far ?_ (Aside0.out (by assumption)) _))) : Kd.C (Kd.int .i64) W A l6.length l6 := (Kd.R_reads' (k h).h6).2.2
theorem mr7_ {A : Option Addr} {n c : Nat} {V W : World} (h : Marks T B V v2 v3 v4 v5 v6 (.slice A n c) v8 v9 l2 l3 l4 l5 l6 l7 l8 l9) (k : Marks T B V v2 v3 v4 v5 v6 (.slice A n c) v8 v9 l2 l3 l4 l5 l6 l7 l8 l9 → Marks T B W v2 v3 v4 v5 v6 (.slice A n c) v8 v9 l2 l3 l4 l5 l6 l7 l8 l9 := by (intro h_; repeat (first | exact h_ | (with_reducible refine Marks.drewN ?_ _) | (with_reducible refine Marks.drew ?_) | (with_reducible refine Marks.alloc ?_ _) | refine Marks.far ?_ (Aside0.out (by assumption)) _))) : Kd.C (Kd.int .i64) W A l7.length l7 := (Kd.R_reads' (k h).h7).2.2
theorem mr8_ {A : Option Addr} {n c : Nat} {V W : World} (h : Marks T B V v2 v3 v4 v5 v6 v7 (.slice A n c) v9 l2 l3 l4 l5 l6 l7 l8 l9) (k : Marks T B V v2 v3 v4 v5 v6 v7 (.slice A n c) v9 l2 l3 l4 l5 l6 l7 l8 l9 → Marks T B W v2 v3 v4 v5 v6 v7 (.slice A n c) v9 l2 l3 l4 l5 l6 l7 l8 l9 := by (intro h_; repeat (first | exact h_ | (with_reducible refine Marks.drewN ?_ _) | (with_reducible refine Marks.drew ?_) | (with_reducible refine Marks.alloc ?_ _) | refine Marks.far ?_ (Aside0.out (by assumption)) _))) : Kd.C (Kd.slice 112 k112) W A l8.length l8 := (Kd.S_reads' (k h).h8).2.2
theorem mr9_ {A : Option Addr} {n c : Nat} {V W : World} (h : Marks T B V v2 v3 v4 v5 v6 v7 v8 (.slice A n c) l2 l3 l4 l5 l6 l7 l8 l9) (k : Marks T B V v2 v3 v4 v5 v6 v7 v8 (.slice A n c) l2 l3 l4 l5 l6 l7 l8 l9 → Marks T B W v2 v3 v4 v5 v6 v7 v8 (.slice A n c) l2 l3 l4 l5 l6 l7 l8 l9 := by (intro h_; repeat (first | exact h_ | (with_reducible refine Marks.drewN ?_ _) | (with_reducible refine Marks.drew ?_) | (with_reducible refine Marks.alloc ?_ _) | refine Marks.far ?_ (Aside0.out (by assumption)) _))) : Kd.C (Kd.slice 112 k112) W A l9.length l9 := (Kd.S_reads' (k h).h9).2.2
end
theorem heldR_ (k : Nat) (A : Option Addr) (c n : Nat) (l : List Int) (a r : Int) {base : Nat} {ok : Nat → Prop} (w : World) (hr : Kd.R (Kd.int .i64) 3 w base ok (.slice A n c) l) (h : laws_heldIntS.f k l a = some r) : Calls Try.prog 34 #[.slice A n c, .int .i64 a] w fun e w' => e = .returned (.int .i64 r) ∧ Drawn0 w w' := by
 obtain ⟨rfl, hc, hd⟩ := Kd.R_reads' hr
 exact laws_heldIntS.calls k _ _ l a r w hd hc h
def laws_FnExactEntering.f (k : Nat) (a0_0 a0_1 : Int) (l0_2 : List Int) (l0_3 : List Int) (l0_4 : List Int) (l0_5 : List (List S133)) (l0_6 : List Int) (l0_7 : List Int) (l0_8 : List (List S133)) (l0_9 : List (List S133)) (a0_10 : Int) : Option Bool :=
 (laws_szNet.f k a0_0 a0_1 l0_2 l0_3 l0_4 l0_5 l0_6 l0_7 l0_8 l0_9 a0_10 1048576).bind fun s => if s < 0 then some true else (laws_toNet.f k a0_0 a0_1 l0_2 l0_3 l0_4 l0_5 l0_6 l0_7 l0_8 l0_9 a0_10).bind fun n => (spec_Entering.f k n.1 n.2.1 n.2.2.1 n.2.2.2.1 n.2.2.2.2.1 n.2.2.2.2.2.1 n.2.2.2.2.2.2.1 n.2.2.2.2.2.2.2.1 n.2.2.2.2.2.2.2.2.1 n.2.2.2.2.2.2.2.2.2.1 n.2.2.2.2.2.2.2.2.2.2).bind fun w0 => (impl_Entering.f k n.1 n.2.1 n.2.2.1 n.2.2.2.1 n.2.2.2.2.1 n.2.2.2.2.2.1 n.2.2.2.2.2.2.1 n.2.2.2.2.2.2.2.1 n.2.2.2.2.2.2.2.2.1 n.2.2.2.2.2.2.2.2.2.1 n.2.2.2.2.2.2.2.2.2.2).bind fun g0 => (laws_eqIntS.f k g0 w0).bind fun e => if e = true then ((laws_eqNet.f k n.1 n.2.1 n.2.2.1 n.2.2.2.1 n.2.2.2.2.1 n.2.2.2.2.2.1 n.2.2.2.2.2.2.1 n.2.2.2.2.2.2.2.1 n.2.2.2.2.2.2.2.2.1 n.2.2.2.2.2.2.2.2.2.1 n.2.2.2.2.2.2.2.2.2.2 n.1 n.2.1 n.2.2.1 n.2.2.2.1 n.2.2.2.2.1 n.2.2.2.2.2.1 n.2.2.2.2.2.2.1 n.2.2.2.2.2.2.2.1 n.2.2.2.2.2.2.2.2.1 n.2.2.2.2.2.2.2.2.2.1 n.2.2.2.2.2.2.2.2.2.2).bind fun e2 => if e2 = true then ((laws_markNet.f k n.1 n.2.1 n.2.2.1 n.2.2.2.1 n.2.2.2.2.1 n.2.2.2.2.2.1 n.2.2.2.2.2.2.1 n.2.2.2.2.2.2.2.1 n.2.2.2.2.2.2.2.2.1 n.2.2.2.2.2.2.2.2.2.1 n.2.2.2.2.2.2.2.2.2.2 1).bind fun b => if b.1 < 0 then none else (laws_markIntS.f k g0 1).bind fun m => (laws_heldIntS.f k m.2 1).bind fun q => if q < 0 then none else if q = m.1 then some true else none) else none) else none
set_option maxHeartbeats 8000000 in
set_option maxRecDepth 100000 in
theorem laws_FnExactEntering.calls (k : Nat) (a0_0 a0_1 : Int) (A0_2 : Option Addr) (c0_2 : Nat) (l0_2 : List Int) (A0_3 : Option Addr) (c0_3 : Nat) (l0_3 : List Int) (A0_4 : Option Addr) (c0_4 : Nat) (l0_4 : List Int) (A0_5 : Option Addr) (c0_5 : Nat) (l0_5 : List (List S133)) (A0_6 : Option Addr) (c0_6 : Nat) (l0_6 : List Int) (A0_7 : Option Addr) (c0_7 : Nat) (l0_7 : List Int) (A0_8 : Option Addr) (c0_8 : Nat) (l0_8 : List (List S133)) (A0_9 : Option Addr) (c0_9 : Nat) (l0_9 : List (List S133)) (a0_10 : Int) (r : Bool) (w : World) (hr0_2 : Kd.C (Kd.int .i64) w A0_2 l0_2.length l0_2) (hc0_2 : l0_2.length ≤ c0_2) (hr0_3 : Kd.C (Kd.int .i64) w A0_3 l0_3.length l0_3) (hc0_3 : l0_3.length ≤ c0_3) (hr0_4 : Kd.C (Kd.int .i64) w A0_4 l0_4.length l0_4) (hc0_4 : l0_4.length ≤ c0_4) (hr0_5 : Kd.C (Kd.slice 133 k133) w A0_5 l0_5.length l0_5) (hc0_5 : l0_5.length ≤ c0_5) (hr0_6 : Kd.C (Kd.int .i64) w A0_6 l0_6.length l0_6) (hc0_6 : l0_6.length ≤ c0_6) (hr0_7 : Kd.C (Kd.int .i64) w A0_7 l0_7.length l0_7) (hc0_7 : l0_7.length ≤ c0_7) (hr0_8 : Kd.C (Kd.slice 133 k133) w A0_8 l0_8.length l0_8) (hc0_8 : l0_8.length ≤ c0_8) (hr0_9 : Kd.C (Kd.slice 133 k133) w A0_9 l0_9.length l0_9) (hc0_9 : l0_9.length ≤ c0_9) (h : laws_FnExactEntering.f k a0_0 a0_1 l0_2 l0_3 l0_4 l0_5 l0_6 l0_7 l0_8 l0_9 a0_10 = some r) :
  Calls Try.prog 5 #[.agg #[.int .i64 a0_0, .int .i64 a0_1, .slice A0_2 l0_2.length c0_2, .slice A0_3 l0_3.length c0_3, .slice A0_4 l0_4.length c0_4, .slice A0_5 l0_5.length c0_5, .slice A0_6 l0_6.length c0_6, .slice A0_7 l0_7.length c0_7, .slice A0_8 l0_8.length c0_8, .slice A0_9 l0_9.length c0_9, .int .i64 a0_10]] w fun e w' => e = .returned (.bool r) ∧ Below w.heap.size w w' := by
 have HR0_2 := Aside0.mk hr0_2
 have HC0_2 := Aside0.mk hc0_2
 have HR0_3 := Aside0.mk hr0_3
 have HC0_3 := Aside0.mk hc0_3
 have HR0_4 := Aside0.mk hr0_4
 have HC0_4 := Aside0.mk hc0_4
 have HR0_5 := Aside0.mk hr0_5
 have HC0_5 := Aside0.mk hc0_5
 have HR0_6 := Aside0.mk hr0_6
 have HC0_6 := Aside0.mk hc0_6
 have HR0_7 := Aside0.mk hr0_7
 have HC0_7 := Aside0.mk hc0_7
 have HR0_8 := Aside0.mk hr0_8
 have HC0_8 := Aside0.mk hc0_8
 have HR0_9 := Aside0.mk hr0_9
 have HC0_9 := Aside0.mk hc0_9
 clear hr0_2 hc0_2 hr0_3 hc0_3 hr0_4 hc0_4 hr0_5 hc0_5 hr0_6 hc0_6 hr0_7 hc0_7 hr0_8 hc0_8 hr0_9 hc0_9
 have HB := Aside0.mk (Below.refl w.heap.size w)
 have hu1_ := Try.underlying37
 have hu2_ := Try.underlying63
 unfold laws_FnExactEntering.f at h
 obtain ⟨s, e1, h⟩ := Option.bind_eq_some_iff.1 h
 have E1 := Aside0.mk e1
 clear e1
 by_cases cs : s < 0
 ·rw [if_pos cs] at h
  obtain rfl := Option.some.inj h
  have cd : decide (s < 0) = true := decide_eq_true cs
  clear cs h
  go_enter Try.func5, Try.ntmps5
  go_wp2_with (first | ((with_reducible refine gate_dst (N := 1) rfl ?_); refine box_event ?hg (N := 1) ?hd (cs := #[.int .i64 a0_0, .int .i64 a0_1, .slice A0_2 l0_2.length c0_2, .slice A0_3 l0_3.length c0_3, .slice A0_4 l0_4.length c0_4, .slice A0_5 l0_5.length c0_5, .slice A0_6 l0_6.length c0_6, .slice A0_7 l0_7.length c0_7, .slice A0_8 l0_8.length c0_8, .slice A0_9 l0_9.length c0_9, .int .i64 a0_10]) (t := 63) ?hr ?_; (case hd => rfl); (case hg => rfl); (case hr => first | (go_simp; done) | (go_simp; rfl)); intro gb hg w1 hbox hb; have BK := Aside0.mk hbox; replace HB := Aside0.mk (bs_ HB.out hb); clear hb hbox hg; obtain ⟨z0, z1, z2, z3, z4, z5, z6, z7, z8, z9, z10, f0, f1, f2, f3, f4, f5, f6, f7, f8, f9, f10⟩ := cz11_ BK.out) | (go_at_call 28; (with_reducible refine (laws_szNet.calls k a0_0 a0_1 _ _ l0_2 _ _ l0_3 _ _ l0_4 _ _ l0_5 _ _ l0_6 _ _ l0_7 _ _ l0_8 _ _ l0_9 a0_10 1048576 s _ ?side2 HC0_2.out ?side3 HC0_3.out ?side4 HC0_4.out ?side5 HC0_5.out ?side6 HC0_6.out ?side7 HC0_7.out ?side8 HC0_8.out ?side9 HC0_9.out E1.out).mono ?_); (case side2 => exact cb_ HR0_2.out HB.out); (case side3 => exact cb_ HR0_3.out HB.out); (case side4 => exact cb_ HR0_4.out HB.out); (case side5 => exact cb_ HR0_5.out HB.out); (case side6 => exact cb_ HR0_6.out HB.out); (case side7 => exact cb_ HR0_7.out HB.out); (case side8 => exact cb_ HR0_8.out HB.out); (case side9 => exact cb_ HR0_9.out HB.out); rintro e w2 ⟨rfl, hb⟩; clear z0 z1 z2 z3 z4 z5 z6 z7 z8 z9 z10 f0 f1 f2 f3 f4 f5 f6 f7 f8 f9 f10; replace BK := Aside0.mk (bk_ BK.out hb); replace HB := Aside0.mk (bs_ HB.out hb); clear hb E1; obtain ⟨z0, z1, z2, z3, z4, z5, z6, z7, z8, z9, z10, f0, f1, f2, f3, f4, f5, f6, f7, f8, f9, f10⟩ := cz11_ BK.out))
  go_ret
  exact ⟨rfl, bb_ HB.out⟩
 ·rw [if_neg cs] at h
  have cd : decide (s < 0) = false := decide_eq_false cs
  clear cs
  obtain ⟨⟨n0, n1, n2, n3, n4, n5, n6, n7, n8, n9, n10⟩, e2, h⟩ := Option.bind_eq_some_iff.1 h
  obtain ⟨w0, e3, h⟩ := Option.bind_eq_some_iff.1 h
  obtain ⟨g0, e4, h⟩ := Option.bind_eq_some_iff.1 h
  obtain ⟨b5, e5, h⟩ := Option.bind_eq_some_iff.1 h
  dsimp only at e3 e4 e5 h
  cases b5 with
  | false => rw [if_neg (by decide)] at h; cases h
  | true =>
  rw [if_pos rfl] at h
  obtain ⟨b6, e6, h⟩ := Option.bind_eq_some_iff.1 h
  cases b6 with
  | false => rw [if_neg (by decide)] at h; cases h
  | true =>
  rw [if_pos rfl] at h
  obtain ⟨⟨m1, y2, y3, y4, y5, y6, y7, y8, y9⟩, e7, h⟩ := Option.bind_eq_some_iff.1 h
  dsimp only at h
  by_cases c7 : m1 < 0
  ·rw [if_pos c7] at h; cases h
  rw [if_neg c7] at h
  obtain ⟨⟨m2, g1⟩, e8, h⟩ := Option.bind_eq_some_iff.1 h
  obtain ⟨q, e9, h⟩ := Option.bind_eq_some_iff.1 h
  dsimp only at e9 h
  by_cases c9 : q < 0
  ·rw [if_pos c9] at h; cases h
  rw [if_neg c9] at h
  by_cases c10 : q = m2
  rotate_left
  ·rw [if_neg c10] at h; cases h
  rw [if_pos c10] at h
  obtain rfl := Option.some.inj h
  subst c10
  have c7d : decide (m1 < 0) = false := decide_eq_false c7
  have c9d : decide (q < 0) = false := decide_eq_false c9
  have cqn : (q != q) = false := by simp
  have E2a := Aside0.mk e2
  have E2b := Aside0.mk e2
  have E2c := Aside0.mk e2
  have E2d := Aside0.mk e2
  have E3 := Aside0.mk e3
  have E4a := Aside0.mk e4
  have E4b := Aside0.mk e4
  have E5a := Aside0.mk e5
  have E5b := Aside0.mk e5
  have E5c := Aside0.mk e5
  have E6 := Aside0.mk e6
  have E7 := Aside0.mk e7
  have E8 := Aside0.mk e8
  have E9a := Aside0.mk e9
  have E9b := Aside0.mk e9
  clear e2 e3 e4 e5 e6 e7 e8 e9 h c7 c9
  go_enter Try.func5, Try.ntmps5
  go_wp2_with (first | ((with_reducible refine gate_dst (N := 1) rfl ?_); refine box_event ?hg (N := 1) ?hd (cs := #[.int .i64 a0_0, .int .i64 a0_1, .slice A0_2 l0_2.length c0_2, .slice A0_3 l0_3.length c0_3, .slice A0_4 l0_4.length c0_4, .slice A0_5 l0_5.length c0_5, .slice A0_6 l0_6.length c0_6, .slice A0_7 l0_7.length c0_7, .slice A0_8 l0_8.length c0_8, .slice A0_9 l0_9.length c0_9, .int .i64 a0_10]) (t := 63) ?hr ?_; (case hd => rfl); (case hg => rfl); (case hr => first | (go_simp; done) | (go_simp; rfl)); intro gb hg w1 hbox hb; have BK := Aside0.mk hbox; replace HB := Aside0.mk (bs_ HB.out hb); clear hb hbox hg; obtain ⟨z0, z1, z2, z3, z4, z5, z6, z7, z8, z9, z10, f0, f1, f2, f3, f4, f5, f6, f7, f8, f9, f10⟩ := cz11_ BK.out) | (go_at_call 28; (with_reducible refine (laws_szNet.calls k a0_0 a0_1 _ _ l0_2 _ _ l0_3 _ _ l0_4 _ _ l0_5 _ _ l0_6 _ _ l0_7 _ _ l0_8 _ _ l0_9 a0_10 1048576 s _ ?side2 HC0_2.out ?side3 HC0_3.out ?side4 HC0_4.out ?side5 HC0_5.out ?side6 HC0_6.out ?side7 HC0_7.out ?side8 HC0_8.out ?side9 HC0_9.out E1.out).mono ?_); (case side2 => exact cb_ HR0_2.out HB.out); (case side3 => exact cb_ HR0_3.out HB.out); (case side4 => exact cb_ HR0_4.out HB.out); (case side5 => exact cb_ HR0_5.out HB.out); (case side6 => exact cb_ HR0_6.out HB.out); (case side7 => exact cb_ HR0_7.out HB.out); (case side8 => exact cb_ HR0_8.out HB.out); (case side9 => exact cb_ HR0_9.out HB.out); rintro e w2 ⟨rfl, hb⟩; clear z0 z1 z2 z3 z4 z5 z6 z7 z8 z9 z10 f0 f1 f2 f3 f4 f5 f6 f7 f8 f9 f10; replace BK := Aside0.mk (bk_ BK.out hb); replace HB := Aside0.mk (bs_ HB.out hb); clear hb E1; obtain ⟨z0, z1, z2, z3, z4, z5, z6, z7, z8, z9, z10, f0, f1, f2, f3, f4, f5, f6, f7, f8, f9, f10⟩ := cz11_ BK.out) | (go_at_call 30; (with_reducible refine (laws_toNet.callsT k a0_0 a0_1 _ _ l0_2 _ _ l0_3 _ _ l0_4 _ _ l0_5 _ _ l0_6 _ _ l0_7 _ _ l0_8 _ _ l0_9 a0_10 n0 n1 n2 n3 n4 n5 n6 n7 n8 n9 n10 _ ?side2 HC0_2.out ?side3 HC0_3.out ?side4 HC0_4.out ?side5 HC0_5.out ?side6 HC0_6.out ?side7 HC0_7.out ?side8 HC0_8.out ?side9 HC0_9.out E2a.out).mono ?_); (case side2 => exact cb_ HR0_2.out HB.out); (case side3 => exact cb_ HR0_3.out HB.out); (case side4 => exact cb_ HR0_4.out HB.out); (case side5 => exact cb_ HR0_5.out HB.out); (case side6 => exact cb_ HR0_6.out HB.out); (case side7 => exact cb_ HR0_7.out HB.out); (case side8 => exact cb_ HR0_8.out HB.out); (case side9 => exact cb_ HR0_9.out HB.out); rintro e wa ⟨T1, u2, u3, u4, u5, u6, u7, u8, u9, rfl, hm, hb⟩; clear z0 z1 z2 z3 z4 z5 z6 z7 z8 z9 z10 f0 f1 f2 f3 f4 f5 f6 f7 f8 f9 f10; have M1 := Aside0.mk hm; replace BK := Aside0.mk (bk_ BK.out hb); replace HB := Aside0.mk (bs_ HB.out hb); clear hm hb E2a; obtain ⟨z0, z1, z2, z3, z4, z5, z6, z7, z8, z9, z10, f0, f1, f2, f3, f4, f5, f6, f7, f8, f9, f10⟩ := cz11_ BK.out; obtain ⟨A2, dA2, rfl⟩ := Kd.R_slice M1.out.h2; obtain ⟨A3, dA3, rfl⟩ := Kd.R_slice M1.out.h3; obtain ⟨A4, dA4, rfl⟩ := Kd.R_slice M1.out.h4; obtain ⟨A5, dA5, rfl⟩ := Kd.S_slice M1.out.h5; obtain ⟨A6, dA6, rfl⟩ := Kd.R_slice M1.out.h6; obtain ⟨A7, dA7, rfl⟩ := Kd.R_slice M1.out.h7; obtain ⟨A8, dA8, rfl⟩ := Kd.S_slice M1.out.h8; obtain ⟨A9, dA9, rfl⟩ := Kd.S_slice M1.out.h9) | (go_at_call 29; (with_reducible refine (spec_Entering.calls k n0 n1 _ _ n2 _ _ n3 _ _ n4 _ _ n5 _ _ n6 _ _ n7 _ _ n8 _ _ n9 n10 w0 _ ?s2 (Kd.R_reads' M1.out.h2).2.1 ?s3 (Kd.R_reads' M1.out.h3).2.1 ?s4 (Kd.R_reads' M1.out.h4).2.1 ?s5 (Kd.S_reads' M1.out.h5).2.1 ?s6 (Kd.R_reads' M1.out.h6).2.1 ?s7 (Kd.R_reads' M1.out.h7).2.1 ?s8 (Kd.S_reads' M1.out.h8).2.1 ?s9 (Kd.S_reads' M1.out.h9).2.1 E3.out).mono ?_); (case s2 => exact mr2_ M1.out); (case s3 => exact mr3_ M1.out); (case s4 => exact mr4_ M1.out); (case s5 => exact mr5_ M1.out); (case s6 => exact mr6_ M1.out); (case s7 => exact mr7_ M1.out); (case s8 => exact mr8_ M1.out); (case s9 => exact mr9_ M1.out); rintro e w4 ⟨v, rfl, ho, hb⟩; have HW := Aside0.mk (Kd.R_lower ho (bz_ HB.out)); obtain ⟨Aw, cw, rfl⟩ := Kd.R_slice HW.out; clear z0 z1 z2 z3 z4 z5 z6 z7 z8 z9 z10 f0 f1 f2 f3 f4 f5 f6 f7 f8 f9 f10; replace BK := Aside0.mk (bk_ BK.out hb); replace HB := Aside0.mk (bs_ HB.out hb); clear ho hb M1 E3; obtain ⟨z0, z1, z2, z3, z4, z5, z6, z7, z8, z9, z10, f0, f1, f2, f3, f4, f5, f6, f7, f8, f9, f10⟩ := cz11_ BK.out) | (go_at_call 30; (with_reducible refine (laws_toNet.callsT k a0_0 a0_1 _ _ l0_2 _ _ l0_3 _ _ l0_4 _ _ l0_5 _ _ l0_6 _ _ l0_7 _ _ l0_8 _ _ l0_9 a0_10 n0 n1 n2 n3 n4 n5 n6 n7 n8 n9 n10 _ ?side2 HC0_2.out ?side3 HC0_3.out ?side4 HC0_4.out ?side5 HC0_5.out ?side6 HC0_6.out ?side7 HC0_7.out ?side8 HC0_8.out ?side9 HC0_9.out E2b.out).mono ?_); (case side2 => exact cb_ HR0_2.out HB.out); (case side3 => exact cb_ HR0_3.out HB.out); (case side4 => exact cb_ HR0_4.out HB.out); (case side5 => exact cb_ HR0_5.out HB.out); (case side6 => exact cb_ HR0_6.out HB.out); (case side7 => exact cb_ HR0_7.out HB.out); (case side8 => exact cb_ HR0_8.out HB.out); (case side9 => exact cb_ HR0_9.out HB.out); rintro e wt ⟨T, u2, u3, u4, u5, u6, u7, u8, u9, rfl, hm, hb⟩; clear z0 z1 z2 z3 z4 z5 z6 z7 z8 z9 z10 f0 f1 f2 f3 f4 f5 f6 f7 f8 f9 f10; replace HW := Aside0.mk (Kd.R_below (Kd.R_mono (ok' := fun k_ => T k_ = 0) (Kd.R_bound (ra_ HW.out)) (fun k_ hk_ => Classical.byContradiction (fun h_ => Nat.not_lt.2 (hm.lo k_ h_) hk_.2.2.1))) hb); have TG := Aside0.mk (show T gb = 0 from Classical.byContradiction (fun h_ => Nat.not_lt.2 (hm.lo gb h_) (blk_lt (bq_ BK.out)))); have M := Aside0.mk (hm.lower (bz_ HB.out)); replace BK := Aside0.mk (bk_ BK.out hb); replace HB := Aside0.mk (bs_ HB.out hb); clear hm hb E2b; obtain ⟨z0, z1, z2, z3, z4, z5, z6, z7, z8, z9, z10, f0, f1, f2, f3, f4, f5, f6, f7, f8, f9, f10⟩ := cz11_ BK.out; obtain ⟨B2, dB2, rfl⟩ := Kd.R_slice M.out.h2; obtain ⟨B3, dB3, rfl⟩ := Kd.R_slice M.out.h3; obtain ⟨B4, dB4, rfl⟩ := Kd.R_slice M.out.h4; obtain ⟨B5, dB5, rfl⟩ := Kd.S_slice M.out.h5; obtain ⟨B6, dB6, rfl⟩ := Kd.R_slice M.out.h6; obtain ⟨B7, dB7, rfl⟩ := Kd.R_slice M.out.h7; obtain ⟨B8, dB8, rfl⟩ := Kd.S_slice M.out.h8; obtain ⟨B9, dB9, rfl⟩ := Kd.S_slice M.out.h9) | (go_at_call 31; (with_reducible refine (impl_Entering.calls k n0 n1 _ _ n2 _ _ n3 _ _ n4 _ _ n5 _ _ n6 _ _ n7 _ _ n8 _ _ n9 n10 g0 _ ?s2 (Kd.R_reads' M.out.h2).2.1 ?s3 (Kd.R_reads' M.out.h3).2.1 ?s4 (Kd.R_reads' M.out.h4).2.1 ?s5 (Kd.S_reads' M.out.h5).2.1 ?s6 (Kd.R_reads' M.out.h6).2.1 ?s7 (Kd.R_reads' M.out.h7).2.1 ?s8 (Kd.S_reads' M.out.h8).2.1 ?s9 (Kd.S_reads' M.out.h9).2.1 E4a.out).mono ?_); (case s2 => exact mr2_ M.out); (case s3 => exact mr3_ M.out); (case s4 => exact mr4_ M.out); (case s5 => exact mr5_ M.out); (case s6 => exact mr6_ M.out); (case s7 => exact mr7_ M.out); (case s8 => exact mr8_ M.out); (case s9 => exact mr9_ M.out); rintro e w6 ⟨v, rfl, ho, hb⟩; have HG := Aside0.mk (Kd.R_lower (Kd.R_mono (ok' := fun k_ => T k_ = 0) (Kd.R_bound ho) (fun k_ hk_ => Classical.byContradiction (fun h_ => Nat.not_lt.2 hk_.2.1 (Marks.hi (mm_ M.out) k_ h_)))) (bz_ HB.out)); replace HW := Aside0.mk (Kd.R_elder' (ra_ HW.out) (Kd.R_base ho) hb); replace M := Aside0.mk ((mm_ M.out).below hb); have BX := Aside0.mk (blk_below (blk_new wt _) hb); clear z0 z1 z2 z3 z4 z5 z6 z7 z8 z9 z10 f0 f1 f2 f3 f4 f5 f6 f7 f8 f9 f10; replace BK := Aside0.mk (bk_ BK.out hb); replace HB := Aside0.mk (bs_ HB.out hb); obtain ⟨Ag, cg, rfl⟩ := Kd.R_slice HG.out; have NG := Aside0.mk (Kd.R_ne HG.out BK.out (by decide)); clear ho hb E4a; obtain ⟨z0, z1, z2, z3, z4, z5, z6, z7, z8, z9, z10, f0, f1, f2, f3, f4, f5, f6, f7, f8, f9, f10⟩ := cz11_ BK.out; obtain ⟨x0, x1, x2, x3, x4, x5, x6, x7, x8, x9, x10, g0_, g1_, g2_, g3_, g4_, g5_, g6_, g7_, g8_, g9_, g10_⟩ := cz11_ BX.out) | (go_at_call 32; (with_reducible refine (laws_eqIntS.calls k _ _ g0 _ _ w0 true _ ?s1 ?s2 ?s3 ?s4 E5a.out).mono ?_); (case s1 => repeat (first | exact (Kd.R_reads' HG.out).2.2 | (with_reducible refine Kd.C_alloc ?_ _) | (with_reducible refine Kd.C_drewN ?_ _) | (with_reducible refine Kd.C_drew ?_))); (case s2 => exact (Kd.R_reads' HG.out).2.1); (case s3 => repeat (first | exact (Kd.R_reads' HW.out).2.2 | (with_reducible refine Kd.C_alloc ?_ _) | (with_reducible refine Kd.C_drewN ?_ _) | (with_reducible refine Kd.C_drew ?_))); (case s4 => exact (Kd.R_reads' HW.out).2.1); rintro e w' ⟨rfl, ⟨nd, rfl⟩⟩; clear E5a))
  go_region_held3 (fun w' => w'.cell? ⟨wt.heap.size, 0, none⟩ = some (.int .i64 n0) ∧ w'.cell? ⟨wt.heap.size, 1, none⟩ = some (.int .i64 n1) ∧ w'.cell? ⟨wt.heap.size, 2, none⟩ = some (.slice B2 n2.length dB2) ∧ w'.cell? ⟨wt.heap.size, 3, none⟩ = some (.slice B3 n3.length dB3) ∧ w'.cell? ⟨wt.heap.size, 4, none⟩ = some (.slice B4 n4.length dB4) ∧ w'.cell? ⟨wt.heap.size, 5, none⟩ = some (.slice B5 n5.length dB5) ∧ w'.cell? ⟨wt.heap.size, 6, none⟩ = some (.slice B6 n6.length dB6) ∧ w'.cell? ⟨wt.heap.size, 7, none⟩ = some (.slice B7 n7.length dB7) ∧ w'.cell? ⟨wt.heap.size, 8, none⟩ = some (.slice B8 n8.length dB8) ∧ w'.cell? ⟨wt.heap.size, 9, none⟩ = some (.slice B9 n9.length dB9) ∧ w'.cell? ⟨wt.heap.size, 10, none⟩ = some (.int .i64 n10) ∧ w'.cell? ⟨gb, 0, none⟩ = some (.int .i64 a0_0) ∧ w'.cell? ⟨gb, 1, none⟩ = some (.int .i64 a0_1) ∧ w'.cell? ⟨gb, 2, none⟩ = some (.slice A0_2 l0_2.length c0_2) ∧ w'.cell? ⟨gb, 3, none⟩ = some (.slice A0_3 l0_3.length c0_3) ∧ w'.cell? ⟨gb, 4, none⟩ = some (.slice A0_4 l0_4.length c0_4) ∧ w'.cell? ⟨gb, 5, none⟩ = some (.slice A0_5 l0_5.length c0_5) ∧ w'.cell? ⟨gb, 6, none⟩ = some (.slice A0_6 l0_6.length c0_6) ∧ w'.cell? ⟨gb, 7, none⟩ = some (.slice A0_7 l0_7.length c0_7) ∧ w'.cell? ⟨gb, 8, none⟩ = some (.slice A0_8 l0_8.length c0_8) ∧ w'.cell? ⟨gb, 9, none⟩ = some (.slice A0_9 l0_9.length c0_9) ∧ w'.cell? ⟨gb, 10, none⟩ = some (.int .i64 a0_10))
   (exact ⟨x0, x1, x2, x3, x4, x5, x6, x7, x8, x9, x10, z0, z1, z2, z3, z4, z5, z6, z7, z8, z9, z10⟩)
   (first | (go_at_call 30; (with_reducible refine (laws_toNet.callsT k a0_0 a0_1 _ _ l0_2 _ _ l0_3 _ _ l0_4 _ _ l0_5 _ _ l0_6 _ _ l0_7 _ _ l0_8 _ _ l0_9 a0_10 n0 n1 n2 n3 n4 n5 n6 n7 n8 n9 n10 _ ?side2 HC0_2.out ?side3 HC0_3.out ?side4 HC0_4.out ?side5 HC0_5.out ?side6 HC0_6.out ?side7 HC0_7.out ?side8 HC0_8.out ?side9 HC0_9.out E2c.out).mono ?_); (case side2 => exact cb_ HR0_2.out HB.out); (case side3 => exact cb_ HR0_3.out HB.out); (case side4 => exact cb_ HR0_4.out HB.out); (case side5 => exact cb_ HR0_5.out HB.out); (case side6 => exact cb_ HR0_6.out HB.out); (case side7 => exact cb_ HR0_7.out HB.out); (case side8 => exact cb_ HR0_8.out HB.out); (case side9 => exact cb_ HR0_9.out HB.out); rintro e wc ⟨T3, u2, u3, u4, u5, u6, u7, u8, u9, rfl, hm, hb⟩; clear z0 z1 z2 z3 z4 z5 z6 z7 z8 z9 z10 f0 f1 f2 f3 f4 f5 f6 f7 f8 f9 f10; have M3 := Aside0.mk hm; replace HW := Aside0.mk (Kd.R_below (ra_ HW.out) hb); replace HG := Aside0.mk (Kd.R_below (ra_ HG.out) hb); replace M := Aside0.mk ((mm_ M.out).below hb); clear x0 x1 x2 x3 x4 x5 x6 x7 x8 x9 x10 g0_ g1_ g2_ g3_ g4_ g5_ g6_ g7_ g8_ g9_ g10_; replace BX := Aside0.mk (bk_ BX.out hb); obtain ⟨x0, x1, x2, x3, x4, x5, x6, x7, x8, x9, x10, g0_, g1_, g2_, g3_, g4_, g5_, g6_, g7_, g8_, g9_, g10_⟩ := cz11_ BX.out; replace BK := Aside0.mk (bk_ BK.out hb); replace HB := Aside0.mk (bs_ HB.out hb); clear hm hb E2c; obtain ⟨z0, z1, z2, z3, z4, z5, z6, z7, z8, z9, z10, f0, f1, f2, f3, f4, f5, f6, f7, f8, f9, f10⟩ := cz11_ BK.out; obtain ⟨C2, dC2, rfl⟩ := Kd.R_slice M3.out.h2; obtain ⟨C3, dC3, rfl⟩ := Kd.R_slice M3.out.h3; obtain ⟨C4, dC4, rfl⟩ := Kd.R_slice M3.out.h4; obtain ⟨C5, dC5, rfl⟩ := Kd.S_slice M3.out.h5; obtain ⟨C6, dC6, rfl⟩ := Kd.R_slice M3.out.h6; obtain ⟨C7, dC7, rfl⟩ := Kd.R_slice M3.out.h7; obtain ⟨C8, dC8, rfl⟩ := Kd.S_slice M3.out.h8; obtain ⟨C9, dC9, rfl⟩ := Kd.S_slice M3.out.h9) | (go_at_call 21; (with_reducible refine (laws_eqNet.calls k n0 n1 _ _ n2 _ _ n3 _ _ n4 _ _ n5 _ _ n6 _ _ n7 _ _ n8 _ _ n9 n10 n0 n1 _ _ n2 _ _ n3 _ _ n4 _ _ n5 _ _ n6 _ _ n7 _ _ n8 _ _ n9 n10 true _ ?s2 (Kd.R_reads' M.out.h2).2.1 ?s3 (Kd.R_reads' M.out.h3).2.1 ?s4 (Kd.R_reads' M.out.h4).2.1 ?s5 (Kd.S_reads' M.out.h5).2.1 ?s6 (Kd.R_reads' M.out.h6).2.1 ?s7 (Kd.R_reads' M.out.h7).2.1 ?s8 (Kd.S_reads' M.out.h8).2.1 ?s9 (Kd.S_reads' M.out.h9).2.1 ?s22 (Kd.R_reads' M3.out.h2).2.1 ?s23 (Kd.R_reads' M3.out.h3).2.1 ?s24 (Kd.R_reads' M3.out.h4).2.1 ?s25 (Kd.S_reads' M3.out.h5).2.1 ?s26 (Kd.R_reads' M3.out.h6).2.1 ?s27 (Kd.R_reads' M3.out.h7).2.1 ?s28 (Kd.S_reads' M3.out.h8).2.1 ?s29 (Kd.S_reads' M3.out.h9).2.1 E6.out).mono ?_); (case s2 => exact mr2_ M.out); (case s3 => exact mr3_ M.out); (case s4 => exact mr4_ M.out); (case s5 => exact mr5_ M.out); (case s6 => exact mr6_ M.out); (case s7 => exact mr7_ M.out); (case s8 => exact mr8_ M.out); (case s9 => exact mr9_ M.out); (case s22 => exact mr2_ M3.out); (case s23 => exact mr3_ M3.out); (case s24 => exact mr4_ M3.out); (case s25 => exact mr5_ M3.out); (case s26 => exact mr6_ M3.out); (case s27 => exact mr7_ M3.out); (case s28 => exact mr8_ M3.out); (case s29 => exact mr9_ M3.out); rintro e w7 ⟨rfl, hb⟩; replace HW := Aside0.mk (Kd.R_below (ra_ HW.out) hb); replace HG := Aside0.mk (Kd.R_below (ra_ HG.out) hb); replace M := Aside0.mk ((mm_ M.out).below hb); clear x0 x1 x2 x3 x4 x5 x6 x7 x8 x9 x10 g0_ g1_ g2_ g3_ g4_ g5_ g6_ g7_ g8_ g9_ g10_; clear z0 z1 z2 z3 z4 z5 z6 z7 z8 z9 z10 f0 f1 f2 f3 f4 f5 f6 f7 f8 f9 f10; replace BX := Aside0.mk (bk_ BX.out hb); replace BK := Aside0.mk (bk_ BK.out hb); replace HB := Aside0.mk (bs_ HB.out hb); clear hb M3 E6; obtain ⟨x0, x1, x2, x3, x4, x5, x6, x7, x8, x9, x10, g0_, g1_, g2_, g3_, g4_, g5_, g6_, g7_, g8_, g9_, g10_⟩ := cz11_ BX.out; obtain ⟨z0, z1, z2, z3, z4, z5, z6, z7, z8, z9, z10, f0, f1, f2, f3, f4, f5, f6, f7, f8, f9, f10⟩ := cz11_ BK.out))
  go_wp2_with (first | (go_at_call 26; (with_reducible refine (laws_markNet.calls k T _ _ _ _ _ _ _ _ n0 n1 n2 n3 n4 n5 n6 n7 n8 n9 n10 1 m1 y2 y3 y4 y5 y6 y7 y8 y9 w _ ?s1 ?s2 E7.out).mono ?_); (case s1 => exact bb_ HB.out); (case s2 => exact mm_ M.out); rintro e w8 ⟨rfl, hm, hb, hk⟩; replace HW := Aside0.mk (Kd.R_kept (ra_ HW.out) hk (fun k_ a_ b_ => b_ a_.1)); replace HG := Aside0.mk (Kd.R_kept (ra_ HG.out) hk (fun k_ a_ b_ => b_ a_)); have BK1 := Aside0.mk (blk_kept (bq_ BK.out) hk (fun h_ => h_ TG.out)); replace HB := Aside0.mk hb; clear x0 x1 x2 x3 x4 x5 x6 x7 x8 x9 x10 g0_ g1_ g2_ g3_ g4_ g5_ g6_ g7_ g8_ g9_ g10_; clear z0 z1 z2 z3 z4 z5 z6 z7 z8 z9 z10 f0 f1 f2 f3 f4 f5 f6 f7 f8 f9 f10; replace BK := BK1; clear hm hb hk BK1 M BX E7; obtain ⟨z0, z1, z2, z3, z4, z5, z6, z7, z8, z9, z10, f0, f1, f2, f3, f4, f5, f6, f7, f8, f9, f10⟩ := cz11_ BK.out) | (go_at_call 32; (with_reducible refine (laws_eqIntS.calls k _ _ g0 _ _ w0 true _ ?s1 ?s2 ?s3 ?s4 E5b.out).mono ?_); (case s1 => repeat (first | exact (Kd.R_reads' HG.out).2.2 | (with_reducible refine Kd.C_alloc ?_ _) | (with_reducible refine Kd.C_drewN ?_ _) | (with_reducible refine Kd.C_drew ?_))); (case s2 => exact (Kd.R_reads' HG.out).2.1); (case s3 => repeat (first | exact (Kd.R_reads' HW.out).2.2 | (with_reducible refine Kd.C_alloc ?_ _) | (with_reducible refine Kd.C_drewN ?_ _) | (with_reducible refine Kd.C_drew ?_))); (case s4 => exact (Kd.R_reads' HW.out).2.1); rintro e w' ⟨rfl, ⟨nd, rfl⟩⟩; clear E5b) | (go_at_call 33; (with_reducible refine (laws_markIntS.calls k (fun k_ => some k_ = (.slice Ag g0.length cg : Value).ownBlock) _ g0 1 _ _ w _ ?s1 ?s2 E8.out).mono ?_); (case s1 => exact bb_ HB.out); (case s2 => exact Kd.R_tight rfl (ra_ HG.out)); rintro e w9 ⟨rfl, hq, hb, hk⟩; replace HW := Aside0.mk (Kd.R_kept (ra_ HW.out) hk (fun k_ a_ b_ => a_.2 b_)); have BK1 := Aside0.mk (blk_kept (bq_ BK.out) hk (fun h_ => NG.out h_)); replace HG := Aside0.mk hq; replace HB := Aside0.mk hb; clear z0 z1 z2 z3 z4 z5 z6 z7 z8 z9 z10 f0 f1 f2 f3 f4 f5 f6 f7 f8 f9 f10; replace BK := BK1; clear hq hb hk BK1 E8; obtain ⟨z0, z1, z2, z3, z4, z5, z6, z7, z8, z9, z10, f0, f1, f2, f3, f4, f5, f6, f7, f8, f9, f10⟩ := cz11_ BK.out) | (go_at_call 34; (with_reducible refine (heldR_ k Ag cg g0.length g1 1 q _ (ra_ HG.out) E9a.out).mono ?_); rintro e w' ⟨rfl, ⟨nd, rfl⟩⟩; clear E9a) | (go_at_call 30; (with_reducible refine (laws_toNet.callsT k a0_0 a0_1 _ _ l0_2 _ _ l0_3 _ _ l0_4 _ _ l0_5 _ _ l0_6 _ _ l0_7 _ _ l0_8 _ _ l0_9 a0_10 n0 n1 n2 n3 n4 n5 n6 n7 n8 n9 n10 _ ?side2 HC0_2.out ?side3 HC0_3.out ?side4 HC0_4.out ?side5 HC0_5.out ?side6 HC0_6.out ?side7 HC0_7.out ?side8 HC0_8.out ?side9 HC0_9.out E2d.out).mono ?_); (case side2 => exact cb_ HR0_2.out HB.out); (case side3 => exact cb_ HR0_3.out HB.out); (case side4 => exact cb_ HR0_4.out HB.out); (case side5 => exact cb_ HR0_5.out HB.out); (case side6 => exact cb_ HR0_6.out HB.out); (case side7 => exact cb_ HR0_7.out HB.out); (case side8 => exact cb_ HR0_8.out HB.out); (case side9 => exact cb_ HR0_9.out HB.out); rintro e wd ⟨T4, u2, u3, u4, u5, u6, u7, u8, u9, rfl, hm, hb⟩; clear z0 z1 z2 z3 z4 z5 z6 z7 z8 z9 z10 f0 f1 f2 f3 f4 f5 f6 f7 f8 f9 f10; have M4 := Aside0.mk hm; replace HW := Aside0.mk (Kd.R_below (ra_ HW.out) hb); replace HG := Aside0.mk (Kd.R_below (ra_ HG.out) hb); replace BK := Aside0.mk (bk_ BK.out hb); replace HB := Aside0.mk (bs_ HB.out hb); clear hm hb E2d; obtain ⟨z0, z1, z2, z3, z4, z5, z6, z7, z8, z9, z10, f0, f1, f2, f3, f4, f5, f6, f7, f8, f9, f10⟩ := cz11_ BK.out; obtain ⟨D2, dD2, rfl⟩ := Kd.R_slice M4.out.h2; obtain ⟨D3, dD3, rfl⟩ := Kd.R_slice M4.out.h3; obtain ⟨D4, dD4, rfl⟩ := Kd.R_slice M4.out.h4; obtain ⟨D5, dD5, rfl⟩ := Kd.S_slice M4.out.h5; obtain ⟨D6, dD6, rfl⟩ := Kd.R_slice M4.out.h6; obtain ⟨D7, dD7, rfl⟩ := Kd.R_slice M4.out.h7; obtain ⟨D8, dD8, rfl⟩ := Kd.S_slice M4.out.h8; obtain ⟨D9, dD9, rfl⟩ := Kd.S_slice M4.out.h9) | (go_at_call 31; (with_reducible refine (impl_Entering.calls k n0 n1 _ _ n2 _ _ n3 _ _ n4 _ _ n5 _ _ n6 _ _ n7 _ _ n8 _ _ n9 n10 g0 _ ?s2 (Kd.R_reads' M4.out.h2).2.1 ?s3 (Kd.R_reads' M4.out.h3).2.1 ?s4 (Kd.R_reads' M4.out.h4).2.1 ?s5 (Kd.S_reads' M4.out.h5).2.1 ?s6 (Kd.R_reads' M4.out.h6).2.1 ?s7 (Kd.R_reads' M4.out.h7).2.1 ?s8 (Kd.S_reads' M4.out.h8).2.1 ?s9 (Kd.S_reads' M4.out.h9).2.1 E4b.out).mono ?_); (case s2 => exact mr2_ M4.out); (case s3 => exact mr3_ M4.out); (case s4 => exact mr4_ M4.out); (case s5 => exact mr5_ M4.out); (case s6 => exact mr6_ M4.out); (case s7 => exact mr7_ M4.out); (case s8 => exact mr8_ M4.out); (case s9 => exact mr9_ M4.out); rintro e wa ⟨v, rfl, ho, hb⟩; have HH := Aside0.mk ho; obtain ⟨Ah, ch, rfl⟩ := Kd.R_slice HH.out; replace HW := Aside0.mk (Kd.R_below (ra_ HW.out) hb); replace HG := Aside0.mk (Kd.R_below (ra_ HG.out) hb); clear z0 z1 z2 z3 z4 z5 z6 z7 z8 z9 z10 f0 f1 f2 f3 f4 f5 f6 f7 f8 f9 f10; replace BK := Aside0.mk (bk_ BK.out hb); replace HB := Aside0.mk (bs_ HB.out hb); clear ho hb M4 E4b; obtain ⟨z0, z1, z2, z3, z4, z5, z6, z7, z8, z9, z10, f0, f1, f2, f3, f4, f5, f6, f7, f8, f9, f10⟩ := cz11_ BK.out) | (go_at_call 32; (with_reducible refine (laws_eqIntS.calls k _ _ g0 _ _ w0 true _ ?s1 ?s2 ?s3 ?s4 E5c.out).mono ?_); (case s1 => repeat (first | exact (Kd.R_reads' HH.out).2.2 | (with_reducible refine Kd.C_alloc ?_ _) | (with_reducible refine Kd.C_drewN ?_ _) | (with_reducible refine Kd.C_drew ?_))); (case s2 => exact (Kd.R_reads' HH.out).2.1); (case s3 => repeat (first | exact (Kd.R_reads' HW.out).2.2 | (with_reducible refine Kd.C_alloc ?_ _) | (with_reducible refine Kd.C_drewN ?_ _) | (with_reducible refine Kd.C_drew ?_))); (case s4 => exact (Kd.R_reads' HW.out).2.1); rintro e w' ⟨rfl, ⟨nd, rfl⟩⟩; clear E5c) | (go_at_call 34; (with_reducible refine (heldR_ k Ag cg g0.length g1 1 q _ (ra_ HG.out) E9b.out).mono ?_); rintro e w' ⟨rfl, ⟨nd, rfl⟩⟩; clear E9b))
  go_ret
  exact ⟨rfl, bb_ HB.out⟩

end Go.Proofs.Ytaofkfooijfjbaa.PFnExactEntering
-- thin
