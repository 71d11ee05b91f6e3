/- Each function that the law comes to, as a plain function, with the proof that the call in the model gives what that function says (written by a program of this session out of the translation). No condition. -/
import Derived.Test.YtaofkfooijfjbaaPFnExactCreditTablex0
import Derived.Test.YtaofkfooijfjbaaPFnExactCreditTablex1
import Derived.Test.YtaofkfooijfjbaaPFnExactCreditTablex2
import Derived.Test.YtaofkfooijfjbaaPFnExactCreditTablex3
import Derived.Test.YtaofkfooijfjbaaPFnExactCreditTablex4
import Derived.Test.YtaofkfooijfjbaaPFnExactCreditTablex9
import Derived.Test.YtaofkfooijfjbaaPFnExactCreditTablex10
import Derived.Test.YtaofkfooijfjbaaPFnExactCreditTablex13
namespace Go.Proofs.Ytaofkfooijfjbaa.PFnExactCreditTable
open Go.RowKit Go.Proofs.YtaofkfooijfjbaaW.PrintWords Go.Proofs.YtaofkfooijfjbaaW.PrintLast Go.Proofs.YtaofkfooijfjbaaW.PrintMore
attribute [local go_sem] max2_int min2_int max_two min_two max_three min_three max_four min_four   -- for this text's walks alone
set_option linter.unusedVariables false
set_option linter.unusedSimpArgs false

/-! ### impl_BufferAt: function 15 -/
def impl_BufferAt.f (a0 : Int) (a1 : Int) (a2 : Int) : Option (Int) := (impl_inside.f a0 0 15).bind fun t448 => (if t448 = true then ((impl_inside.f a1 0 4).bind fun t449 => (if t449 = true then ((impl_inside.f a2 0 1).bind fun t450 => (if t450 = true then (some (wrap64 ((wrap64 ((wrap64 ((wrap64 (5 * a0)) + a1)) * 2)) + a2))) else (some (-1)))) else (some (-1)))) else (some (-1)))
theorem impl_BufferAt.e0 {P : Prop} (h : P := by
 go_enter Try.func15, Try.ntmps15
 go_wp2_with (first | ((with_reducible refine gate_callee (f := 49) rfl ?_); refine gm_ (some 8) Try.func49 #[.int .i64 a0, .int .i64 0, .int .i64 15] rfl ?_; (with_reducible refine (impl_inside.calls a0 0 15 _ _ A4.out).mono ?_); rintro e w' ⟨rfl, ⟨nd, rfl⟩⟩; refine ⟨_, rfl, ?_⟩) | (go_at_call 49; (with_reducible refine (impl_inside.calls a1 0 4 _ _ A6.out).mono ?_); rintro e w' ⟨rfl, ⟨nd, rfl⟩⟩) | (go_at_call 49; (with_reducible refine (impl_inside.calls a2 0 1 _ _ A8.out).mono ?_); rintro e w' ⟨rfl, ⟨nd, rfl⟩⟩))
 go_ret
 exact ⟨by first | rfl | (simp; done) | (simp [*]; done), by repeat (first | exact Drawn0.refl _ | apply Drawn0.step)⟩) : P := h
set_option maxHeartbeats 8000000 in
set_option maxRecDepth 100000 in
theorem impl_BufferAt.calls (a0 : Int) (a1 : Int) (a2 : Int) (r : Int) (w : World) (h : impl_BufferAt.f a0 a1 a2 = some r) :
  Calls Try.prog 15 #[.int .i64 a0, .int .i64 a1, .int .i64 a2] w fun e w' => e = .returned (.int .i64 r) ∧ Drawn0 w w' := by
 have H : ((impl_inside.f a0 0 15).bind fun t448 => (if t448 = true then ((impl_inside.f a1 0 4).bind fun t449 => (if t449 = true then ((impl_inside.f a2 0 1).bind fun t450 => (if t450 = true then (some (wrap64 ((wrap64 ((wrap64 ((wrap64 (5 * a0)) + a1)) * 2)) + a2))) else (some (-1)))) else (some (-1)))) else (some (-1)))) = some r := h
 clear h
 replace H := Option.bind_eq_some_iff.mp H
 obtain ⟨t448, A40, H⟩ := H
 try dsimp only at H
 have A4 := Aside0.mk A40
 clear A40
 by_cases c5 : t448 = true
 ·subst c5
  rw [if_pos rfl] at H
  replace H := Option.bind_eq_some_iff.mp H
  obtain ⟨t449, A60, H⟩ := H
  try dsimp only at H
  have A6 := Aside0.mk A60
  clear A60
  by_cases c7 : t449 = true
  ·subst c7
   rw [if_pos rfl] at H
   replace H := Option.bind_eq_some_iff.mp H
   obtain ⟨t450, A80, H⟩ := H
   try dsimp only at H
   have A8 := Aside0.mk A80
   clear A80
   by_cases c9 : t450 = true
   ·subst c9
    rw [if_pos rfl] at H
    obtain rfl := Option.some.inj H
    exact impl_BufferAt.e0
   ·replace c9 := Bool.eq_false_iff.mpr c9
    subst c9
    rw [if_neg (show ¬ (false = true) by decide)] at H
    obtain rfl := Option.some.inj H
    exact impl_BufferAt.e0
  ·replace c7 := Bool.eq_false_iff.mpr c7
   subst c7
   rw [if_neg (show ¬ (false = true) by decide)] at H
   obtain rfl := Option.some.inj H
   exact impl_BufferAt.e0
 ·replace c5 := Bool.eq_false_iff.mpr c5
  subst c5
  rw [if_neg (show ¬ (false = true) by decide)] at H
  obtain rfl := Option.some.inj H
  exact impl_BufferAt.e0

/-! ### impl_live: function 128 -/
def impl_live.f (k : Nat) (a0_0 : Int) (a0_1 : Int) (l0_2 : List Int) (a1 : Int) : Option (Bool) := (impl_leads.f a0_0 a0_1 a1).bind fun t452 => (if t452 = true then ((slices_Contains_int_int.f k l0_2 a1).bind fun t453 => (some (!t453))) else (some false))
theorem impl_live.mono : ∀ a0 a1 a2 a3 k, LeO (impl_live.f k a0 a1 a2 a3) (impl_live.f (k + 1) a0 a1 a2 a3) := by
 intro a0 a1 a2 a3 k
 unfold impl_live.f
 repeat' first
   | (with_reducible exact slices_Contains_int_int.mono _ _ _)
   | (with_reducible exact LeO.refl _)
   | (with_reducible exact LeO.none _)
   | (with_reducible refine LeO.ite ?_ ?_)
   | (with_reducible refine LeO.bind ?_ (fun _ => ?_))
   | exact slices_Contains_int_int.mono _ _ _
   | exact LeO.none _
   | refine LeO.ite ?_ ?_
   | refine LeO.bind ?_ (fun _ => ?_)
theorem impl_live.e0 {P : Prop} (h : P := by
 go_enter Try.func128, Try.ntmps128
 go_wp2_with (first | ((with_reducible refine gate_dst (N := 2) rfl ?_); refine box_event ?hg (N := 2) ?hd (cs := #[.int .i64 a0_0, .int .i64 a0_1, .slice A0_2 l0_2.length c0_2]) (t := 28) ?hr ?_; (case hd => rfl); (case hg => rfl); (case hr => first | (go_simp; done) | (go_simp; rfl)); intro gb451 hg w_0 hbox hb; have BK451 := Aside0.mk (hbox); have GW451 := Aside0.mk ((by rw [hg]; exact (bz_ HB.out) : w.heap.size ≤ gb451)); have GE451 := Aside0.mk ((by rw [hg]; exact (bz_ HB.out) : w.heap.size ≤ gb451)); replace HB := Aside0.mk (bs_ HB.out hb); clear hb hbox hg; obtain ⟨hcz_0, hcz_1, hcz_2, hfz_0, hfz_1, hfz_2⟩ := cz3_ BK451.out) | ((with_reducible refine gate_callee (f := 123) rfl ?_); refine gm_ (some 8) Try.func123 #[.agg #[.int .i64 a0_0, .int .i64 a0_1], .int .i64 a1] rfl ?_; (with_reducible refine (impl_leads.calls a0_0 a0_1 a1 _ _ A3.out).mono ?_); rintro e w_0 ⟨rfl, hb⟩; refine ⟨_, rfl, ?_⟩; replace BK451 := Aside0.mk (bk_ BK451.out hb); replace HB := Aside0.mk (bs_ HB.out hb); (try clear hb); obtain ⟨hcz_0, hcz_1, hcz_2, hfz_0, hfz_1, hfz_2⟩ := cz3_ BK451.out) | (go_at_call 131; (with_reducible refine (slices_Contains_int_int.calls k _ _ l0_2 a1 t453 _ ?side1 HC0_2.out A5.out).mono ?_); (case side1 => exact cb_ HR0_2.out HB.out); rintro e w' ⟨rfl, ⟨nd, rfl⟩⟩))
 go_ret
 exact ⟨fin_, bb_ HB.out⟩) : P := h
set_option maxHeartbeats 8000000 in
set_option maxRecDepth 100000 in
theorem impl_live.calls (k : Nat) (a0_0 : Int) (a0_1 : Int) (A0_2 : Option Addr) (c0_2 : Nat) (l0_2 : List Int) (a1 : Int) (r : Bool) (w : World) (hr0_2 : Kd.C (Kd.int .i64) w A0_2 l0_2.length l0_2) (hc0_2 : l0_2.length ≤ c0_2) (h : impl_live.f k a0_0 a0_1 l0_2 a1 = some r) :
  Calls Try.prog 128 #[.agg #[.int .i64 a0_0, .int .i64 a0_1, .slice A0_2 l0_2.length c0_2], .int .i64 a1] w fun e w' => e = .returned (.bool r) ∧ Below w.heap.size w w' := by
 have hu28 := Try.underlying28
 have hu25 := Try.underlying25
 have HR0_2 := Aside0.mk hr0_2
 have HC0_2 := Aside0.mk hc0_2
 clear hr0_2 hc0_2
 have HB := Aside0.mk (Below.refl w.heap.size w)
 have H : ((impl_leads.f a0_0 a0_1 a1).bind fun t452 => (if t452 = true then ((slices_Contains_int_int.f k l0_2 a1).bind fun t453 => (some (!t453))) else (some false))) = some r := h
 clear h
 replace H := Option.bind_eq_some_iff.mp H
 obtain ⟨t452, A30, H⟩ := H
 try dsimp only at H
 have A3 := Aside0.mk A30
 clear A30
 by_cases c4 : t452 = true
 ·subst c4
  rw [if_pos rfl] at H
  replace H := Option.bind_eq_some_iff.mp H
  obtain ⟨t453, A50, H⟩ := H
  try dsimp only at H
  have A5 := Aside0.mk A50
  clear A50
  obtain rfl := Option.some.inj H
  exact impl_live.e0
 ·replace c4 := Bool.eq_false_iff.mpr c4
  subst c4
  rw [if_neg (show ¬ (false = true) by decide)] at H
  obtain rfl := Option.some.inj H
  exact impl_live.e0

/-! ### impl_Opposite: function 129 -/
def impl_Opposite.f (a0 : Int) : Option (Int) := if a0 = 4 then (some 4) else ((impl_inside.f a0 0 3).bind fun t454 => (if t454 = true then (some (Int.tmod (wrap64 (a0 + 2)) 4)) else (some (-1))))
theorem impl_Opposite.e0 {P : Prop} (h : P := by
 go_enter Try.func129, Try.ntmps129
 go_wp2_with (first | ((with_reducible refine gate_callee (f := 49) rfl ?_); refine gm_ (some 8) Try.func49 #[.int .i64 a0, .int .i64 0, .int .i64 3] rfl ?_; (with_reducible refine (impl_inside.calls a0 0 3 _ _ A3.out).mono ?_); rintro e w' ⟨rfl, ⟨nd, rfl⟩⟩; refine ⟨_, rfl, ?_⟩))
 go_ret
 exact ⟨by first | rfl | (simp; done) | (simp [*]; done), by repeat (first | exact Drawn0.refl _ | apply Drawn0.step)⟩) : P := h
set_option maxHeartbeats 8000000 in
set_option maxRecDepth 100000 in
theorem impl_Opposite.calls (a0 : Int) (r : Int) (w : World) (h : impl_Opposite.f a0 = some r) :
  Calls Try.prog 129 #[.int .i64 a0] w fun e w' => e = .returned (.int .i64 r) ∧ Drawn0 w w' := by
 have H : (if a0 = 4 then (some 4) else ((impl_inside.f a0 0 3).bind fun t454 => (if t454 = true then (some (Int.tmod (wrap64 (a0 + 2)) 4)) else (some (-1))))) = some r := h
 clear h
 by_cases c2 : a0 = 4
 ·rw [if_pos c2] at H
  have c2b0 : (a0 == 4) = true := beq_iff_eq.mpr c2
  have c2b1 : (a0 != 4) = false := bne_eq_false_iff_eq.mpr c2
  clear c2
  obtain rfl := Option.some.inj H
  exact impl_Opposite.e0
 ·rw [if_neg c2] at H
  have c2b0 : (a0 == 4) = false := beq_eq_false_iff_ne.mpr c2
  have c2b1 : (a0 != 4) = true := bne_iff_ne.mpr c2
  replace H := Option.bind_eq_some_iff.mp H
  obtain ⟨t454, A30, H⟩ := H
  try dsimp only at H
  have A3 := Aside0.mk A30
  clear A30
  by_cases c4 : t454 = true
  ·subst c4
   rw [if_pos rfl] at H
   obtain rfl := Option.some.inj H
   exact impl_Opposite.e0
  ·replace c4 := Bool.eq_false_iff.mpr c4
   subst c4
   rw [if_neg (show ¬ (false = true) by decide)] at H
   obtain rfl := Option.some.inj H
   exact impl_Opposite.e0

/-! ### impl_Net_behind: function 118 -/
/-- A network behind a pointer, read. -/
def NetAt (W : World) (g : Nat) (s0 : Int) (s1 : Int) (s2 : List Int) (s3 : List Int) (s4 : List Int) (s5 : List (List S112)) (s6 : List Int) (s7 : List Int) (s8 : List (List S112)) (s9 : List (List S112)) (s10 : Int) : Prop := ∃ A2 c2 A3 c3 A4 c4 A5 c5 A6 c6 A7 c7 A8 c8 A9 c9, W.heap[g]? = some (.cells #[.int .i64 s0, .int .i64 s1, .slice A2 s2.length c2, .slice A3 s3.length c3, .slice A4 s4.length c4, .slice A5 s5.length c5, .slice A6 s6.length c6, .slice A7 s7.length c7, .slice A8 s8.length c8, .slice A9 s9.length c9, .int .i64 s10] 37 (0, 0)) ∧ (Kd.C (Kd.int .i64) W A2 s2.length s2 ∧ s2.length ≤ c2) ∧ (Kd.C (Kd.int .i64) W A3 s3.length s3 ∧ s3.length ≤ c3) ∧ (Kd.C (Kd.int .i64) W A4 s4.length s4 ∧ s4.length ≤ c4) ∧ (Kd.C (Kd.slice 112 k112) W A5 s5.length s5 ∧ s5.length ≤ c5) ∧ (Kd.C (Kd.int .i64) W A6 s6.length s6 ∧ s6.length ≤ c6) ∧ (Kd.C (Kd.int .i64) W A7 s7.length s7 ∧ s7.length ≤ c7) ∧ (Kd.C (Kd.slice 112 k112) W A8 s8.length s8 ∧ s8.length ≤ c8) ∧ (Kd.C (Kd.slice 112 k112) W A9 s9.length s9 ∧ s9.length ≤ c9)
theorem NetAt.below {W W1 : World} {g : Nat} {s0 : Int} {s1 : Int} {s2 : List Int} {s3 : List Int} {s4 : List Int} {s5 : List (List S112)} {s6 : List Int} {s7 : List Int} {s8 : List (List S112)} {s9 : List (List S112)} {s10 : Int} (h : NetAt W g s0 s1 s2 s3 s4 s5 s6 s7 s8 s9 s10) (b : Below W.heap.size W W1) : NetAt W1 g s0 s1 s2 s3 s4 s5 s6 s7 s8 s9 s10 := by
 obtain ⟨A2, c2, A3, c3, A4, c4, A5, c5, A6, c6, A7, c7, A8, c8, A9, c9, hb, ⟨h2, k2⟩, ⟨h3, k3⟩, ⟨h4, k4⟩, ⟨h5, k5⟩, ⟨h6, k6⟩, ⟨h7, k7⟩, ⟨h8, k8⟩, ⟨h9, k9⟩⟩ := h
 exact ⟨A2, c2, A3, c3, A4, c4, A5, c5, A6, c6, A7, c7, A8, c8, A9, c9, blk_below hb b, ⟨Kd.C_below h2 b, k2⟩, ⟨Kd.C_below h3 b, k3⟩, ⟨Kd.C_below h4 b, k4⟩, ⟨Kd.C_below h5 b, k5⟩, ⟨Kd.C_below h6 b, k6⟩, ⟨Kd.C_below h7 b, k7⟩, ⟨Kd.C_below h8 b, k8⟩, ⟨Kd.C_below h9 b, k9⟩⟩
theorem NetAt.drewN {W : World} {g : Nat} {s0 : Int} {s1 : Int} {s2 : List Int} {s3 : List Int} {s4 : List Int} {s5 : List (List S112)} {s6 : List Int} {s7 : List Int} {s8 : List (List S112)} {s9 : List (List S112)} {s10 : Int} (h : NetAt W g s0 s1 s2 s3 s4 s5 s6 s7 s8 s9 s10) (m : Nat) : NetAt (W.drewN m) g s0 s1 s2 s3 s4 s5 s6 s7 s8 s9 s10 := h
theorem NetAt.drewn0 {W W1 : World} {g : Nat} {s0 : Int} {s1 : Int} {s2 : List Int} {s3 : List Int} {s4 : List Int} {s5 : List (List S112)} {s6 : List Int} {s7 : List Int} {s8 : List (List S112)} {s9 : List (List S112)} {s10 : Int} (h : NetAt W g s0 s1 s2 s3 s4 s5 s6 s7 s8 s9 s10) (d : Drawn0 W W1) : NetAt W1 g s0 s1 s2 s3 s4 s5 s6 s7 s8 s9 s10 := by
 obtain ⟨m, rfl⟩ := d
 exact h
theorem below_drawn0 {w V W : World} (h : Below w.heap.size w V) (d : Drawn0 V W) : Below w.heap.size w W := by
 obtain ⟨m, rfl⟩ := d
 exact pw_below_drewN h m
def impl_Net_behind.f (k : Nat) (s0 s1 : Int) (s2 : List Int) (a1 a2 a3 : Int) : Option Int := if a2 = 4 then (some (-1)) else ((impl_live.f k s0 s1 s2 (wrap64 ((wrap64 (4 * a1)) + a2))).bind fun b => (if b = true then ((impl_endOf.f s0 s1 s2 (wrap64 ((wrap64 (4 * a1)) + a2))).bind fun e => ((impl_Opposite.f a2).bind fun o => (impl_BufferAt.f e o a3))) else (some (-1))))
theorem impl_Net_behind.mono (s0 s1 : Int) (s2 : List Int) (a1 a2 a3 : Int) : ∀ k, LeO (impl_Net_behind.f k s0 s1 s2 a1 a2 a3) (impl_Net_behind.f (k + 1) s0 s1 s2 a1 a2 a3) := by
 intro k
 unfold impl_Net_behind.f
 exact LeO.ite (LeO.refl _) (LeO.bind (impl_live.mono _ _ _ _ _) (fun _ => LeO.refl _))
theorem impl_Net_behind.e0 {P : Prop} (h : P := by
 go_enter Try.func118, Try.ntmps118
 go_wp2_with (first | (go_at_call 128; (with_reducible refine (impl_live.calls k s0 s1 _ _ s2 _ _ _ ?side1 HC2.out A1.out).mono ?_); (case side1 => exact cb_ HR2.out HB.out); rintro e w_0 ⟨rfl, hb⟩; replace BK := Aside0.mk (bk_ BK.out hb); replace HB := Aside0.mk (bs_ HB.out hb); (try clear hb); obtain ⟨z0, z1, z2, z3, z4, z5, z6, z7, z8, z9, z10, f0, f1, f2, f3, f4, f5, f6, f7, f8, f9, f10⟩ := cz11_ BK.out) | (go_at_call 126; (with_reducible refine (impl_endOf.calls s0 s1 _ _ s2 _ _ _ ?side1 HC2.out A2_.out).mono ?_); (case side1 => exact cb_ HR2.out HB.out); rintro e w_0 ⟨rfl, hb⟩; replace BK := Aside0.mk (bk_ BK.out hb); replace HB := Aside0.mk (bs_ HB.out hb); (try clear hb); obtain ⟨z0, z1, z2, z3, z4, z5, z6, z7, z8, z9, z10, f0, f1, f2, f3, f4, f5, f6, f7, f8, f9, f10⟩ := cz11_ BK.out) | (go_at_call 129; (with_reducible refine (impl_Opposite.calls _ _ _ A3_.out).mono ?_); rintro e w' ⟨rfl, ⟨nd, rfl⟩⟩) | (go_at_call 15; (with_reducible refine (impl_BufferAt.calls _ _ _ _ _ A4_.out).mono ?_); rintro e w' ⟨rfl, ⟨nd, rfl⟩⟩))
 go_ret
 exact ⟨fin_, bb_ HB.out⟩) : P := h
set_option maxHeartbeats 4000000 in
set_option maxRecDepth 100000 in
theorem impl_Net_behind.calls (k g : Nat) (s0 : Int) (s1 : Int) (s2 : List Int) (s3 : List Int) (s4 : List Int) (s5 : List (List S112)) (s6 : List Int) (s7 : List Int) (s8 : List (List S112)) (s9 : List (List S112)) (s10 : Int) (a1 a2 a3 r : Int) (w : World) (hN : NetAt w g s0 s1 s2 s3 s4 s5 s6 s7 s8 s9 s10) (h : impl_Net_behind.f k s0 s1 s2 a1 a2 a3 = some r) :
  Calls Try.prog 118 #[.pointer (some ⟨g, 0, none⟩), .int .i64 a1, .int .i64 a2, .int .i64 a3] w fun e w' => e = .returned (.int .i64 r) ∧ Below w.heap.size w w' := by
 obtain ⟨A2, c2, A3, c3, A4, c4, A5, c5, A6, c6, A7, c7, A8, c8, A9, c9, hb, ⟨h2, k2⟩, ⟨h3, k3⟩, ⟨h4, k4⟩, ⟨h5, k5⟩, ⟨h6, k6⟩, ⟨h7, k7⟩, ⟨h8, k8⟩, ⟨h9, k9⟩⟩ := hN
 have BK := Aside0.mk hb
 have HR2 := Aside0.mk h2
 have HC2 := Aside0.mk k2
 clear hb h2 k2 h3 k3 h4 k4 h5 k5 h6 k6 h7 k7 h8 k8 h9 k9
 have HB := Aside0.mk (Below.refl w.heap.size w)
 obtain ⟨z0, z1, z2, z3, z4, z5, z6, z7, z8, z9, z10, f0, f1, f2, f3, f4, f5, f6, f7, f8, f9, f10⟩ := cz11_ BK.out
 unfold impl_Net_behind.f at h
 by_cases c1 : a2 = 4
 ·rw [if_pos c1] at h
  obtain rfl := Option.some.inj h
  have c1b : (a2 == 4) = true := beq_iff_eq.mpr c1
  clear c1 h
  exact impl_Net_behind.e0
 ·rw [if_neg c1] at h
  have c1b : (a2 == 4) = false := beq_eq_false_iff_ne.mpr c1
  clear c1
  obtain ⟨b, A10, h⟩ := Option.bind_eq_some_iff.1 h
  have A1 := Aside0.mk A10
  clear A10
  cases b with
  | false =>
   have h1 : some (-1 : Int) = some r := h
   obtain rfl := Option.some.inj h1
   clear h h1
   exact impl_Net_behind.e0
  | true =>
   have h1 : ((impl_endOf.f s0 s1 s2 (wrap64 ((wrap64 (4 * a1)) + a2))).bind fun e => ((impl_Opposite.f a2).bind fun o => (impl_BufferAt.f e o a3))) = some r := h
   clear h
   obtain ⟨e0, A20, h⟩ := Option.bind_eq_some_iff.1 h1
   obtain ⟨o0, A30, h⟩ := Option.bind_eq_some_iff.1 h
   have A2_ := Aside0.mk A20
   have A3_ := Aside0.mk A30
   have A4_ := Aside0.mk h
   clear A20 A30 h h1
   exact impl_Net_behind.e0

/-! ### impl_Net_credit: function 100 -/
def impl_Net_credit.f (k : Nat) (s0 s1 : Int) (s2 : List Int) (s5 : List (List S112)) (a1 a2 a3 : Int) : Option Int := (impl_Net_behind.f k s0 s1 s2 a1 a2 a3).bind fun at_ => (if at_ < 0 then (some (-1)) else (if at_ < (s5.length : Int) then (some (wrap64 (3 - ((rd_L3 s5 at_).length : Int)))) else none))
theorem impl_Net_credit.mono (s0 s1 : Int) (s2 : List Int) (s5 : List (List S112)) (a1 a2 a3 : Int) : ∀ k, LeO (impl_Net_credit.f k s0 s1 s2 s5 a1 a2 a3) (impl_Net_credit.f (k + 1) s0 s1 s2 s5 a1 a2 a3) := by
 intro k
 unfold impl_Net_credit.f
 exact LeO.bind (impl_Net_behind.mono _ _ _ _ _ _ _) (fun _ => LeO.refl _)
set_option maxHeartbeats 4000000 in
set_option maxRecDepth 100000 in
theorem impl_Net_credit.calls (k g : Nat) (s0 : Int) (s1 : Int) (s2 : List Int) (s3 : List Int) (s4 : List Int) (s5 : List (List S112)) (s6 : List Int) (s7 : List Int) (s8 : List (List S112)) (s9 : List (List S112)) (s10 : Int) (a1 a2 a3 : Int) (r : Int) (w : World) (hN : NetAt w g s0 s1 s2 s3 s4 s5 s6 s7 s8 s9 s10) (h : impl_Net_credit.f k s0 s1 s2 s5 a1 a2 a3 = some r) :
  Calls Try.prog 100 #[.pointer (some ⟨g, 0, none⟩), .int .i64 a1, .int .i64 a2, .int .i64 a3] w fun e w' => e = .returned (.int .i64 r) ∧ Below w.heap.size w w' := by
 have hNA := Aside0.mk hN
 obtain ⟨A2, c2, A3, c3, A4, c4, A5, c5, A6, c6, A7, c7, A8, c8, A9, c9, hb, ⟨h2, k2⟩, ⟨h3, k3⟩, ⟨h4, k4⟩, ⟨h5, k5⟩, ⟨h6, k6⟩, ⟨h7, k7⟩, ⟨h8, k8⟩, ⟨h9, k9⟩⟩ := hN
 have BK := Aside0.mk hb
 have HR5 := Aside0.mk h5
 have HC5 := Aside0.mk k5
 clear hb h2 k2 h3 k3 h4 k4 h5 k5 h6 k6 h7 k7 h8 k8 h9 k9
 have HB := Aside0.mk (Below.refl w.heap.size w)
 obtain ⟨z0, z1, z2, z3, z4, z5, z6, z7, z8, z9, z10, f0, f1, f2, f3, f4, f5, f6, f7, f8, f9, f10⟩ := cz11_ BK.out
 unfold impl_Net_credit.f at h
 obtain ⟨at_, A10, h⟩ := Option.bind_eq_some_iff.1 h
 have A1 := Aside0.mk A10
 clear A10
 by_cases c2 : at_ < 0
 ·rw [if_pos c2] at h
  obtain rfl := Option.some.inj h
  clear h
  have c2b : decide (at_ < 0) = true := decide_eq_true c2
  clear c2
  go_enter Try.func100, Try.ntmps100
  go_wp2_with (first | (go_at_call 118; (with_reducible refine (impl_Net_behind.calls k g s0 s1 s2 s3 s4 s5 s6 s7 s8 s9 s10 a1 a2 a3 _ _ ?side1 A1.out).mono ?_); (case side1 => exact hNA.out); rintro e w1 ⟨rfl, hb⟩; replace BK := Aside0.mk (bk_ BK.out hb); replace HB := Aside0.mk (bs_ HB.out hb); (try clear hb); obtain ⟨z0, z1, z2, z3, z4, z5, z6, z7, z8, z9, z10, f0, f1, f2, f3, f4, f5, f6, f7, f8, f9, f10⟩ := cz11_ BK.out))
  go_ret
  exact ⟨fin_, bb_ HB.out⟩
 ·rw [if_neg c2] at h
  by_cases c3 : at_ < (s5.length : Int)
  ·rw [if_pos c3] at h
   obtain rfl := Option.some.inj h
   clear h
   have c1 : 0 ≤ at_ := by omega
   obtain ⟨ad, AE, cE, eE, hxE, hlE, hiE⟩ := at_L3 HR5.out at_ c1 c3
   cases eE
   have hxA := Aside0.mk hxE
   clear hxE hlE hiE
   have c2b : decide (at_ < 0) = false := decide_eq_false c2
   have c1b : decide (0 ≤ at_) = true := decide_eq_true c1
   have c3b : decide (at_ < (s5.length : Int)) = true := decide_eq_true c3
   clear c2
   replace c1 := eq_true c1
   replace c3 := eq_true c3
   go_enter Try.func100, Try.ntmps100
   go_wp2_with (first | (go_at_call 118; (with_reducible refine (impl_Net_behind.calls k g s0 s1 s2 s3 s4 s5 s6 s7 s8 s9 s10 a1 a2 a3 _ _ ?side1 A1.out).mono ?_); (case side1 => exact hNA.out); rintro e w1 ⟨rfl, hb⟩; replace BK := Aside0.mk (bk_ BK.out hb); replace HB := Aside0.mk (bs_ HB.out hb); (try clear hb); obtain ⟨z0, z1, z2, z3, z4, z5, z6, z7, z8, z9, z10, f0, f1, f2, f3, f4, f5, f6, f7, f8, f9, f10⟩ := cz11_ BK.out; have hxE := (HB.out.cell (World.block_lt_of_cell? w _ hxA.out)).trans hxA.out))
   go_ret
   exact ⟨fin_, bb_ HB.out⟩
  ·rw [if_neg c3] at h
   exact absurd h (by simp)

/-! ### impl_Net_credits: function 74 -/
/-- A row of two whole numbers that has just been made. -/
theorem two_C (W : World) (e : TypeId) (u v : Int) : Kd.C (Kd.int .i64) (W.alloc (.cells #[.int .i64 u, .int .i64 v] e)) (some ⟨W.heap.size, 0, none⟩) 2 [u, v] := by
 refine ⟨rfl, by decide, fun _ => ⟨_, rfl, fun j p hj => ⟨[.int .i64 p], rfl, rfl, fun i x hi => ?_⟩⟩⟩
 have hi0 : i = 0 := by
  cases i with
  | zero => rfl
  | succ i => simp at hi
 subst hi0
 have hx : Value.int .i64 p = x := by simpa using hi
 subst hx
 have hb : (W.alloc (.cells #[.int .i64 u, .int .i64 v] e)).heap[W.heap.size]? = some (.cells #[.int .i64 u, .int .i64 v] e (0, 0)) := blk_new W _
 match j, hj with
 | 0, hj =>
  have : u = p := by simpa using hj
  subst this
  exact (blk_cell hb 0).trans rfl
 | 1, hj =>
  have : v = p := by simpa using hj
  subst this
  exact (blk_cell hb 1).trans rfl
 | j + 2, hj => simp at hj
def impl_Net_credits.l0 : Nat → Int → Int → List Int → List (List S112) → List Int → Int → Int → Option (List Int)
 | 0, _, _, _, _, _, _, _ => none
 | k + 1, s0, s1, s2, s5, acc, n, x => if x < n then ((impl_Net_credit.f k s0 s1 s2 s5 (wrap64 (Int.tdiv x 4)) (Int.tmod x 4) 0).bind fun u => ((impl_Net_credit.f k s0 s1 s2 s5 (wrap64 (Int.tdiv x 4)) (Int.tmod x 4) 1).bind fun v => (if acc.length < 8796093022208 then (impl_Net_credits.l0 k s0 s1 s2 s5 (acc ++ [u, v]) n (wrap64 (x + 1))) else none))) else (some acc)
def impl_Net_credits.f (k : Nat) (s0 s1 : Int) (s2 : List Int) (s5 s8 : List (List S112)) : Option (List Int) := impl_Net_credits.l0 k s0 s1 s2 s5 [] (wrap64 (4 * (s8.length : Int))) 0
theorem impl_Net_credits.mono_l : ∀ k s0 s1 s2 s5 acc n x, LeO (impl_Net_credits.l0 k s0 s1 s2 s5 acc n x) (impl_Net_credits.l0 (k + 1) s0 s1 s2 s5 acc n x)
 | 0, _, _, _, _, _, _, _ => fun r h => by simp [impl_Net_credits.l0] at h
 | k + 1, s0, s1, s2, s5, acc, n, x => by
  have ih := impl_Net_credits.mono_l k
  unfold impl_Net_credits.l0
  exact LeO.ite (LeO.bind (impl_Net_credit.mono _ _ _ _ _ _ _ _) (fun _ => LeO.bind (impl_Net_credit.mono _ _ _ _ _ _ _ _) (fun _ => LeO.ite (ih _ _ _ _ _ _ _) (LeO.refl _)))) (LeO.refl _)
theorem impl_Net_credits.mono (s0 s1 : Int) (s2 : List Int) (s5 s8 : List (List S112)) : ∀ k, LeO (impl_Net_credits.f k s0 s1 s2 s5 s8) (impl_Net_credits.f (k + 1) s0 s1 s2 s5 s8) := fun k => impl_Net_credits.mono_l _ _ _ _ _ _ _ _
set_option maxHeartbeats 4000000 in
set_option maxRecDepth 100000 in
theorem impl_Net_credits.calls (k g : Nat) (s0 : Int) (s1 : Int) (s2 : List Int) (s3 : List Int) (s4 : List Int) (s5 : List (List S112)) (s6 : List Int) (s7 : List Int) (s8 : List (List S112)) (s9 : List (List S112)) (s10 : Int) (r : List Int) (w : World) (hN : NetAt w g s0 s1 s2 s3 s4 s5 s6 s7 s8 s9 s10) (h : impl_Net_credits.f k s0 s1 s2 s5 s8 = some r) :
  Calls Try.prog 74 #[.pointer (some ⟨g, 0, none⟩)] w fun e w' => ∃ v0_ : Value, e = .returned v0_ ∧ Kd.R (Kd.int .i64) 3 w' w.heap.size (fun _ => True) v0_ r ∧ Below w.heap.size w w' := by
 have hNA := Aside0.mk hN
 obtain ⟨A2, c2, A3, c3, A4, c4, A5, c5, A6, c6, A7, c7, A8, c8, A9, c9, hb, ⟨h2, k2⟩, ⟨h3, k3⟩, ⟨h4, k4⟩, ⟨h5, k5⟩, ⟨h6, k6⟩, ⟨h7, k7⟩, ⟨h8, k8⟩, ⟨h9, k9⟩⟩ := hN
 have BK := Aside0.mk hb
 have HR8 := Aside0.mk h8
 have HC8 := Aside0.mk k8
 clear hb h2 k2 h3 k3 h4 k4 h5 k5 h6 k6 h7 k7 h8 k8 h9 k9
 have HB := Aside0.mk (Below.refl w.heap.size w)
 obtain ⟨z0, z1, z2, z3, z4, z5, z6, z7, z8, z9, z10, f0, f1, f2, f3, f4, f5, f6, f7, f8, f9, f10⟩ := cz11_ BK.out
 have H' := Aside0.mk h
 clear h
 go_enter Try.func74, Try.ntmps74
 go_wp2_with (first | ((with_reducible refine gate_dst (N := 5) rfl ?_); refine Kd.R_lit (Kd.int .i64) _ 3 ?hg (N := 5) ?hd (xs := ([] : List Int)) (inner := []) (ok := fun _ => True) (okp := fun _ => True) ?hr ?hp (fun _ hk => hk) trivial (Below.refl _ _) (Nat.le_refl _) (by simp) ?_; (case hd => rfl); (case hg => rfl); (case hr => first | (go_simp; done) | (go_simp; rfl)); (case hp => exact (Reps.none _ _)); intro v0 w1 ho hb hg_ hnew_; clear hg_ hnew_; have HO := Aside0.mk (Kd.R_lower ho (bz_ HB.out)); replace BK := Aside0.mk (bk_ BK.out hb); replace HB := Aside0.mk (bs_ HB.out hb); clear hb ho; obtain ⟨z0, z1, z2, z3, z4, z5, z6, z7, z8, z9, z10, f0, f1, f2, f3, f4, f5, f6, f7, f8, f9, f10⟩ := cz11_ BK.out))
 go_loopg [3, 12] k (fun kq v3 v12 w' => ∃ (acc : List Int) (x : Int), v12 = .int .i64 x ∧ Aside0 (impl_Net_credits.l0 kq s0 s1 s2 s5 acc (wrap64 (4 * (s8.length : Int))) x = some r) ∧ Aside0 (kq ≤ k) ∧ Aside0 (Kd.R (Kd.int .i64) 3 w' w.heap.size (fun _ => True) v3 acc) ∧ Aside0 (Below w.heap.size w w'))
 case atStart => exact ⟨[], 0, ef_, H', ⟨Nat.le_refl _⟩, ⟨by (with_reducible repeat (first | apply Kd.R_alloc | apply Kd.R_drewN | apply Kd.R_drew)); exact HO.out⟩, ⟨bb_ HB.out⟩⟩
 case round =>
  clear H'
  (try clear HO)
  (try clear HB)
  obtain ⟨acc, x, rfl, HA, HK1, HO, HB⟩ := hrel
  cases gk with
  | zero => exact absurd HA.out (by simp [impl_Net_credits.l0])
  | succ k1 =>
   have H := HA.out
   clear HA
   simp only [impl_Net_credits.l0] at H
   by_cases q1 : x < (wrap64 (4 * (s8.length : Int)))
   ·rw [if_pos q1] at H
    have q1b : decide (x < (wrap64 (4 * (s8.length : Int)))) = true := decide_eq_true q1
    clear q1
    obtain ⟨u, A10, H⟩ := Option.bind_eq_some_iff.1 H
    obtain ⟨v, A20, H⟩ := Option.bind_eq_some_iff.1 H
    have A1 := Aside0.mk A10
    have A2_ := Aside0.mk A20
    clear A10 A20
    by_cases q2 : acc.length < 8796093022208
    ·rw [if_pos q2] at H
     have LM := Aside0.mk q2
     clear q2
     have H' := Aside0.mk H
     clear H
     go_wp2_with (first | (go_at_call 100; (with_reducible refine (impl_Net_credit.calls k1 g s0 s1 s2 s3 s4 s5 s6 s7 s8 s9 s10 _ _ _ _ _ ?side1 A1.out).mono ?_); (case side1 => exact hNA.out.below HB.out); rintro e w1 ⟨rfl, hb⟩; replace HO := Aside0.mk (Kd.R_below (ra_ HO.out) hb); replace HB := Aside0.mk (bs_ HB.out hb); (try clear hb)) | (go_at_call 100; (with_reducible refine (impl_Net_credit.calls k1 g s0 s1 s2 s3 s4 s5 s6 s7 s8 s9 s10 _ _ _ _ _ ?side1 A2_.out).mono ?_); (case side1 => exact hNA.out.below HB.out); rintro e w1 ⟨rfl, hb⟩; replace HO := Aside0.mk (Kd.R_below (ra_ HO.out) hb); replace HB := Aside0.mk (bs_ HB.out hb); (try clear hb)) | ((with_reducible refine gate_builtin (b := .append) (xs := #[.tmp 15, .tmp 28]) rfl ?_); at_builtin; refine Kd.R_append_rows (Kd.int .i64) (Rr := (Kd.int .i64).K _) (w0 := w) w.heap.size rfl (.tmp 15) (.tmp 28) 26 3 (.int .i64 0) 8 rfl Try.underlying26 info3 rfl (by decide) (by omega) _ acc [u, v] _ 2 2 (fun _ => True) (fun _ => False) rfl rfl ?aO (two_C _ _ u v) (fun _ _ h_ => h_) (fun _ h_ => h_.elim) (fun _ _ => trivial) ?aB ?aS ?aL ?_; (case aO => exact (ra_ HO.out)); (case aB => exact bb_ HB.out); (case aS => exact bz_ HB.out); (case aL => have := LM.out; omega); intro v1 w2 ho hb hg hat; replace HO := Aside0.mk ho; replace HB := Aside0.mk hb; clear ho hb hg hat))
     go_roundg k1
     case measure => have := HK1.out; omega
     case rel => exact ⟨acc ++ [u, v], wrap64 (x + 1), ef_, H', ⟨by have := HK1.out; omega⟩, ⟨by (with_reducible repeat (first | apply Kd.R_alloc | apply Kd.R_drewN | apply Kd.R_drew)); exact HO.out⟩, ⟨bb_ HB.out⟩⟩
    ·rw [if_neg q2] at H
     exact absurd H (by simp)
   ·rw [if_neg q1] at H
    have q1b : decide (x < (wrap64 (4 * (s8.length : Int)))) = false := decide_eq_false q1
    clear q1
    obtain rfl := Option.some.inj H
    clear H
    go_wp2
    go_ret
    exact ⟨_, fin_, by (with_reducible repeat (first | apply Kd.R_alloc | apply Kd.R_drewN | apply Kd.R_drew)); exact HO.out, bb_ HB.out⟩

/-! ### impl_CreditTable: function 36 -/
def impl_CreditTable.f (k : Nat) (a0_0 : Int) (a0_1 : Int) (l0_2 : List Int) (l0_3 : List Int) (l0_4 : List Int) (l0_5 : List (List S112)) (l0_6 : List Int) (l0_7 : List Int) (l0_8 : List (List S112)) (l0_9 : List (List S112)) (a0_10 : Int) : Option (List Int) := (impl_NetOk.f k a0_0 a0_1 l0_2 l0_3 l0_4 l0_5 l0_6 l0_7 l0_8 l0_9 a0_10).bind fun b1 => (if b1 = true then (impl_Net_credits.f k a0_0 a0_1 l0_2 l0_5 l0_8) else (some []))
theorem impl_CreditTable.mono (a0_0 : Int) (a0_1 : Int) (l0_2 : List Int) (l0_3 : List Int) (l0_4 : List Int) (l0_5 : List (List S112)) (l0_6 : List Int) (l0_7 : List Int) (l0_8 : List (List S112)) (l0_9 : List (List S112)) (a0_10 : Int) : ∀ k, LeO (impl_CreditTable.f k a0_0 a0_1 l0_2 l0_3 l0_4 l0_5 l0_6 l0_7 l0_8 l0_9 a0_10) (impl_CreditTable.f (k + 1) a0_0 a0_1 l0_2 l0_3 l0_4 l0_5 l0_6 l0_7 l0_8 l0_9 a0_10) := by
 intro k
 unfold impl_CreditTable.f
 exact LeO.bind (impl_NetOk.mono _ _ _ _ _ _ _ _ _ _ _ _ ) (fun _ => LeO.ite (impl_Net_credits.mono _ _ _ _ _ _) (LeO.refl _))
set_option maxHeartbeats 4000000 in
set_option maxRecDepth 100000 in
theorem impl_CreditTable.calls (k : Nat) (a0_0 : Int) (a0_1 : Int) (A0_2 : Option Addr) (c0_2 : Nat) (l0_2 : List Int) (A0_3 : Option Addr) (c0_3 : Nat) (l0_3 : List Int) (A0_4 : Option Addr) (c0_4 : Nat) (l0_4 : List Int) (A0_5 : Option Addr) (c0_5 : Nat) (l0_5 : List (List S112)) (A0_6 : Option Addr) (c0_6 : Nat) (l0_6 : List Int) (A0_7 : Option Addr) (c0_7 : Nat) (l0_7 : List Int) (A0_8 : Option Addr) (c0_8 : Nat) (l0_8 : List (List S112)) (A0_9 : Option Addr) (c0_9 : Nat) (l0_9 : List (List S112)) (a0_10 : Int) (r : List Int) (w : World) (hr0_2 : Kd.C (Kd.int .i64) w A0_2 l0_2.length l0_2) (hc0_2 : l0_2.length ≤ c0_2) (hr0_3 : Kd.C (Kd.int .i64) w A0_3 l0_3.length l0_3) (hc0_3 : l0_3.length ≤ c0_3) (hr0_4 : Kd.C (Kd.int .i64) w A0_4 l0_4.length l0_4) (hc0_4 : l0_4.length ≤ c0_4) (hr0_5 : Kd.C (Kd.slice 112 k112) w A0_5 l0_5.length l0_5) (hc0_5 : l0_5.length ≤ c0_5) (hr0_6 : Kd.C (Kd.int .i64) w A0_6 l0_6.length l0_6) (hc0_6 : l0_6.length ≤ c0_6) (hr0_7 : Kd.C (Kd.int .i64) w A0_7 l0_7.length l0_7) (hc0_7 : l0_7.length ≤ c0_7) (hr0_8 : Kd.C (Kd.slice 112 k112) w A0_8 l0_8.length l0_8) (hc0_8 : l0_8.length ≤ c0_8) (hr0_9 : Kd.C (Kd.slice 112 k112) w A0_9 l0_9.length l0_9) (hc0_9 : l0_9.length ≤ c0_9) (h : impl_CreditTable.f k a0_0 a0_1 l0_2 l0_3 l0_4 l0_5 l0_6 l0_7 l0_8 l0_9 a0_10 = some r) :
  Calls Try.prog 36 #[.agg #[.int .i64 a0_0, .int .i64 a0_1, .slice A0_2 l0_2.length c0_2, .slice A0_3 l0_3.length c0_3, .slice A0_4 l0_4.length c0_4, .slice A0_5 l0_5.length c0_5, .slice A0_6 l0_6.length c0_6, .slice A0_7 l0_7.length c0_7, .slice A0_8 l0_8.length c0_8, .slice A0_9 l0_9.length c0_9, .int .i64 a0_10]] w fun e w' => ∃ v0_ : Value, e = .returned v0_ ∧ Kd.R (Kd.int .i64) 3 w' w.heap.size (fun _ => True) v0_ r ∧ Below w.heap.size w w' := by
 have HR0_2 := Aside0.mk hr0_2
 have HC0_2 := Aside0.mk hc0_2
 clear hr0_2 hc0_2
 have HR0_3 := Aside0.mk hr0_3
 have HC0_3 := Aside0.mk hc0_3
 clear hr0_3 hc0_3
 have HR0_4 := Aside0.mk hr0_4
 have HC0_4 := Aside0.mk hc0_4
 clear hr0_4 hc0_4
 have HR0_5 := Aside0.mk hr0_5
 have HC0_5 := Aside0.mk hc0_5
 clear hr0_5 hc0_5
 have HR0_6 := Aside0.mk hr0_6
 have HC0_6 := Aside0.mk hc0_6
 clear hr0_6 hc0_6
 have HR0_7 := Aside0.mk hr0_7
 have HC0_7 := Aside0.mk hc0_7
 clear hr0_7 hc0_7
 have HR0_8 := Aside0.mk hr0_8
 have HC0_8 := Aside0.mk hc0_8
 clear hr0_8 hc0_8
 have HR0_9 := Aside0.mk hr0_9
 have HC0_9 := Aside0.mk hc0_9
 clear hr0_9 hc0_9
 have HB := Aside0.mk (Below.refl w.heap.size w)
 unfold impl_CreditTable.f at h
 obtain ⟨b1, A10, h⟩ := Option.bind_eq_some_iff.1 h
 have A1 := Aside0.mk A10
 clear A10
 cases b1 with
 | false =>
  have h1 : some ([] : List Int) = some r := h
  obtain rfl := Option.some.inj h1
  clear h h1
  go_enter Try.func36, Try.ntmps36
  go_wp2_with (first | ((with_reducible refine gate_dst (N := 1) rfl ?_); refine box_event ?hg (N := 1) ?hd (cs := #[.int .i64 a0_0, .int .i64 a0_1, .slice A0_2 l0_2.length c0_2, .slice A0_3 l0_3.length c0_3, .slice A0_4 l0_4.length c0_4, .slice A0_5 l0_5.length c0_5, .slice A0_6 l0_6.length c0_6, .slice A0_7 l0_7.length c0_7, .slice A0_8 l0_8.length c0_8, .slice A0_9 l0_9.length c0_9, .int .i64 a0_10]) (t := 37) ?hr ?_; (case hd => rfl); (case hg => rfl); (case hr => first | (go_simp; done) | (go_simp; rfl)); intro gb hg w1 hbox hb; have BK := Aside0.mk hbox; replace HB := Aside0.mk (bs_ HB.out hb); clear hb hbox hg; obtain ⟨z0, z1, z2, z3, z4, z5, z6, z7, z8, z9, z10, f0, f1, f2, f3, f4, f5, f6, f7, f8, f9, f10⟩ := cz11_ BK.out) | (go_at_call 12; (with_reducible refine (impl_NetOk.calls k a0_0 a0_1 _ _ l0_2 _ _ l0_3 _ _ l0_4 _ _ l0_5 _ _ l0_6 _ _ l0_7 _ _ l0_8 _ _ l0_9 a0_10  _ _ ?side1 HC0_2.out ?side2 HC0_3.out ?side3 HC0_4.out ?side4 HC0_5.out ?side5 HC0_6.out ?side6 HC0_7.out ?side7 HC0_8.out ?side8 HC0_9.out A1.out).mono ?_); (case side1 => exact cb_ HR0_2.out HB.out); (case side2 => exact cb_ HR0_3.out HB.out); (case side3 => exact cb_ HR0_4.out HB.out); (case side4 => exact cb_ HR0_5.out HB.out); (case side5 => exact cb_ HR0_6.out HB.out); (case side6 => exact cb_ HR0_7.out HB.out); (case side7 => exact cb_ HR0_8.out HB.out); (case side8 => exact cb_ HR0_9.out HB.out); rintro e w1 ⟨rfl, hb⟩; replace BK := Aside0.mk (bk_ BK.out hb); replace HB := Aside0.mk (bs_ HB.out hb); (try clear hb); obtain ⟨z0, z1, z2, z3, z4, z5, z6, z7, z8, z9, z10, f0, f1, f2, f3, f4, f5, f6, f7, f8, f9, f10⟩ := cz11_ BK.out))
  go_ret
  exact ⟨_, fin_, Kd.R_nil _ _ _ _ _, bb_ HB.out⟩
 | true =>
  rw [if_pos rfl] at h
  have A2_ := Aside0.mk h
  clear h
  go_enter Try.func36, Try.ntmps36
  go_wp2_with (first | ((with_reducible refine gate_dst (N := 1) rfl ?_); refine box_event ?hg (N := 1) ?hd (cs := #[.int .i64 a0_0, .int .i64 a0_1, .slice A0_2 l0_2.length c0_2, .slice A0_3 l0_3.length c0_3, .slice A0_4 l0_4.length c0_4, .slice A0_5 l0_5.length c0_5, .slice A0_6 l0_6.length c0_6, .slice A0_7 l0_7.length c0_7, .slice A0_8 l0_8.length c0_8, .slice A0_9 l0_9.length c0_9, .int .i64 a0_10]) (t := 37) ?hr ?_; (case hd => rfl); (case hg => rfl); (case hr => first | (go_simp; done) | (go_simp; rfl)); intro gb hg w1 hbox hb; have BK := Aside0.mk hbox; replace HB := Aside0.mk (bs_ HB.out hb); clear hb hbox hg; obtain ⟨z0, z1, z2, z3, z4, z5, z6, z7, z8, z9, z10, f0, f1, f2, f3, f4, f5, f6, f7, f8, f9, f10⟩ := cz11_ BK.out) | (go_at_call 12; (with_reducible refine (impl_NetOk.calls k a0_0 a0_1 _ _ l0_2 _ _ l0_3 _ _ l0_4 _ _ l0_5 _ _ l0_6 _ _ l0_7 _ _ l0_8 _ _ l0_9 a0_10  _ _ ?side1 HC0_2.out ?side2 HC0_3.out ?side3 HC0_4.out ?side4 HC0_5.out ?side5 HC0_6.out ?side6 HC0_7.out ?side7 HC0_8.out ?side8 HC0_9.out A1.out).mono ?_); (case side1 => exact cb_ HR0_2.out HB.out); (case side2 => exact cb_ HR0_3.out HB.out); (case side3 => exact cb_ HR0_4.out HB.out); (case side4 => exact cb_ HR0_5.out HB.out); (case side5 => exact cb_ HR0_6.out HB.out); (case side6 => exact cb_ HR0_7.out HB.out); (case side7 => exact cb_ HR0_8.out HB.out); (case side8 => exact cb_ HR0_9.out HB.out); rintro e w1 ⟨rfl, hb⟩; replace BK := Aside0.mk (bk_ BK.out hb); replace HB := Aside0.mk (bs_ HB.out hb); (try clear hb); obtain ⟨z0, z1, z2, z3, z4, z5, z6, z7, z8, z9, z10, f0, f1, f2, f3, f4, f5, f6, f7, f8, f9, f10⟩ := cz11_ BK.out) | (go_at_call 74; (with_reducible refine (impl_Net_credits.calls k gb a0_0 a0_1 l0_2 l0_3 l0_4 l0_5 l0_6 l0_7 l0_8 l0_9 a0_10 _ _ ?side1 A2_.out).mono ?_); (case side1 => exact ⟨A0_2, c0_2, A0_3, c0_3, A0_4, c0_4, A0_5, c0_5, A0_6, c0_6, A0_7, c0_7, A0_8, c0_8, A0_9, c0_9, bq_ BK.out, ⟨cb_ HR0_2.out HB.out, HC0_2.out⟩, ⟨cb_ HR0_3.out HB.out, HC0_3.out⟩, ⟨cb_ HR0_4.out HB.out, HC0_4.out⟩, ⟨cb_ HR0_5.out HB.out, HC0_5.out⟩, ⟨cb_ HR0_6.out HB.out, HC0_6.out⟩, ⟨cb_ HR0_7.out HB.out, HC0_7.out⟩, ⟨cb_ HR0_8.out HB.out, HC0_8.out⟩, ⟨cb_ HR0_9.out HB.out, HC0_9.out⟩⟩); rintro e wc ⟨vc, rfl, ho, hb⟩; have HO := Aside0.mk (Kd.R_lower ho (bz_ HB.out)); replace HB := Aside0.mk (bs_ HB.out hb); clear ho hb))
  go_ret
  exact ⟨_, fin_, by (with_reducible repeat (first | apply Kd.R_alloc | apply Kd.R_drewN | apply Kd.R_drew)); exact HO.out, bb_ HB.out⟩

/-! ### laws_FnExactCreditTable: function 6 -/
section
variable {T : Nat → Nat} {B : Nat} {w : World} {v2 v3 v4 v5 v6 v7 v8 v9 : Value} {l2 l3 l4 : List Int} {l5 : List (List S112)} {l6 l7 : List Int} {l8 l9 : List (List S112)}
theorem Marks.drewN (h : Marks T B w v2 v3 v4 v5 v6 v7 v8 v9 l2 l3 l4 l5 l6 l7 l8 l9) (n : Nat) : Marks T B (w.drewN n) v2 v3 v4 v5 v6 v7 v8 v9 l2 l3 l4 l5 l6 l7 l8 l9 := h.below (pw_below_drewN (Below.refl _ _) n)
theorem Marks.drew (h : Marks T B w v2 v3 v4 v5 v6 v7 v8 v9 l2 l3 l4 l5 l6 l7 l8 l9) : Marks T B w.drew v2 v3 v4 v5 v6 v7 v8 v9 l2 l3 l4 l5 l6 l7 l8 l9 := h.below (below_drew (Below.refl _ _))
theorem Marks.alloc (h : Marks T B w v2 v3 v4 v5 v6 v7 v8 v9 l2 l3 l4 l5 l6 l7 l8 l9) (o : Obj) : Marks T B (w.alloc o) v2 v3 v4 v5 v6 v7 v8 v9 l2 l3 l4 l5 l6 l7 l8 l9 := h.below (below_alloc (Below.refl _ _) o)
theorem Marks.far (h : Marks T B w v2 v3 v4 v5 v6 v7 v8 v9 l2 l3 l4 l5 l6 l7 l8 l9) {p : Addr} (hp : T p.block = 0) (u : Value) : Marks T B (w.setCell p u) v2 v3 v4 v5 v6 v7 v8 v9 l2 l3 l4 l5 l6 l7 l8 l9 :=
 ⟨h.lo, fun k hk => by have := h.hi k hk; simpa [World.setCell] using this, Kd.R_far h.h2 (fun k hk e => absurd (hp.symm.trans (show T p.block = 2 from e ▸ hk)) (by decide)) u, Kd.R_far h.h3 (fun k hk e => absurd (hp.symm.trans (show T p.block = 3 from e ▸ hk)) (by decide)) u, Kd.R_far h.h4 (fun k hk e => absurd (hp.symm.trans (show T p.block = 4 from e ▸ hk)) (by decide)) u, Kd.S_far h.h5 (fun k hk e => absurd (hp.symm.trans (show T p.block = 5 from e ▸ hk)) (by decide)) u, Kd.R_far h.h6 (fun k hk e => absurd (hp.symm.trans (show T p.block = 6 from e ▸ hk)) (by decide)) u, Kd.R_far h.h7 (fun k hk e => absurd (hp.symm.trans (show T p.block = 7 from e ▸ hk)) (by decide)) u, Kd.S_far h.h8 (fun k hk e => absurd (hp.symm.trans (show T p.block = 8 from e ▸ hk)) (by decide)) u, Kd.S_far h.h9 (fun k hk e => absurd (hp.symm.trans (show T p.block = 9 from e ▸ hk)) (by decide)) u⟩
theorem mm_ {V W : World} (h : Marks T B V v2 v3 v4 v5 v6 v7 v8 v9 l2 l3 l4 l5 l6 l7 l8 l9) (k : Marks T B V v2 v3 v4 v5 v6 v7 v8 v9 l2 l3 l4 l5 l6 l7 l8 l9 → Marks T B W v2 v3 v4 v5 v6 v7 v8 v9 l2 l3 l4 l5 l6 l7 l8 l9 := by (intro h_; repeat (first | exact h_ | (with_reducible refine Marks.drewN ?_ _) | (with_reducible refine Marks.drew ?_) | (with_reducible refine Marks.alloc ?_ _) | refine Marks.far ?_ (Aside0.out (by assumption)) _))) : Marks T B W v2 v3 v4 v5 v6 v7 v8 v9 l2 l3 l4 l5 l6 l7 l8 l9 := k h
theorem mr2_ {A : Option Addr} {n c : Nat} {V W : World} (h : Marks T B V (.slice A n c) v3 v4 v5 v6 v7 v8 v9 l2 l3 l4 l5 l6 l7 l8 l9) (k : Marks T B V (.slice A n c) v3 v4 v5 v6 v7 v8 v9 l2 l3 l4 l5 l6 l7 l8 l9 → Marks T B W (.slice A n c) v3 v4 v5 v6 v7 v8 v9 l2 l3 l4 l5 l6 l7 l8 l9 := by (intro h_; repeat (first | exact h_ | (with_reducible refine Marks.drewN ?_ _) | (with_reducible refine Marks.drew ?_) | (with_reducible refine Marks.alloc ?_ _) | refine Marks.far ?_ (Aside0.out (by assumption)) _))) : Kd.C (Kd.int .i64) W A l2.length l2 := (Kd.R_reads' (k h).h2).2.2
theorem mr3_ {A : Option Addr} {n c : Nat} {V W : World} (h : Marks T B V v2 (.slice A n c) v4 v5 v6 v7 v8 v9 l2 l3 l4 l5 l6 l7 l8 l9) (k : Marks T B V v2 (.slice A n c) v4 v5 v6 v7 v8 v9 l2 l3 l4 l5 l6 l7 l8 l9 → Marks T B W v2 (.slice A n c) v4 v5 v6 v7 v8 v9 l2 l3 l4 l5 l6 l7 l8 l9 := by (intro h_; repeat (first | exact h_ | (with_reducible refine Marks.drewN ?_ _) | (with_reducible refine Marks.drew ?_) | (with_reducible refine Marks.alloc ?_ _) | refine Marks.far ?_ (Aside0.out (by assumption)) _))) : Kd.C (Kd.int .i64) W A l3.length l3 := (Kd.R_reads' (k h).h3).2.2
theorem mr4_ {A : Option Addr} {n c : Nat} {V W : World} (h : Marks T B V v2 v3 (.slice A n c) v5 v6 v7 v8 v9 l2 l3 l4 l5 l6 l7 l8 l9) (k : Marks T B V v2 v3 (.slice A n c) v5 v6 v7 v8 v9 l2 l3 l4 l5 l6 l7 l8 l9 → Marks T B W v2 v3 (.slice A n c) v5 v6 v7 v8 v9 l2 l3 l4 l5 l6 l7 l8 l9 := by (intro h_; repeat (first | exact h_ | (with_reducible refine Marks.drewN ?_ _) | (with_reducible refine Marks.drew ?_) | (with_reducible refine Marks.alloc ?_ _) | refine Marks.far ?_ (Aside0.out (by assumption)) _))) : Kd.C (Kd.int .i64) W A l4.length l4 := (Kd.R_reads' (k h).h4).2.2
theorem mr5_ {A : Option Addr} {n c : Nat} {V W : World} (h : Marks T B V v2 v3 v4 (.slice A n c) v6 v7 v8 v9 l2 l3 l4 l5 l6 l7 l8 l9) (k : Marks T B V v2 v3 v4 (.slice A n c) v6 v7 v8 v9 l2 l3 l4 l5 l6 l7 l8 l9 → Marks T B W v2 v3 v4 (.slice A n c) v6 v7 v8 v9 l2 l3 l4 l5 l6 l7 l8 l9 := by (intro h_; repeat (first | exact h_ | (with_reducible refine Marks.drewN ?_ _) | (with_reducible refine Marks.drew ?_) | (with_reducible refine Marks.alloc ?_ _) | refine Marks.far ?_ (Aside0.out (by assumption)) _))) : Kd.C (Kd.slice 112 k112) W A l5.length l5 := (Kd.S_reads' (k h).h5).2.2
theorem mr6_ {A : Option Addr} {n c : Nat} {V W : World} (h : Marks T B V v2 v3 v4 v5 (.slice A n c) v7 v8 v9 l2 l3 l4 l5 l6 l7 l8 l9) (k : Marks T B V v2 v3 v4 v5 (.slice A n c) v7 v8 v9 l2 l3 l4 l5 l6 l7 l8 l9 → Marks T B W v2 v3 v4 v5 (.slice A n c) v7 v8 v9 l2 l3 l4 l5 l6 l7 l8 l9 := by (intro h_; repeat (first | exact h_ | (with_reducible refine Marks.drewN ?_ _) | (with_reducible refine Marks.drew ?_) | (with_reducible refine Marks.alloc ?_ _) | refine Marks.far ?_ (Aside0.out (by assumption)) _))) : Kd.C (Kd.int .i64) W A l6.length l6 := (Kd.R_reads' (k h).h6).2.2
theorem mr7_ {A : Option Addr} {n c : Nat} {V W : World} (h : Marks T B V v2 v3 v4 v5 v6 (.slice A n c) v8 v9 l2 l3 l4 l5 l6 l7 l8 l9) (k : Marks T B V v2 v3 v4 v5 v6 (.slice A n c) v8 v9 l2 l3 l4 l5 l6 l7 l8 l9 → Marks T B W v2 v3 v4 v5 v6 (.slice A n c) v8 v9 l2 l3 l4 l5 l6 l7 l8 l9 := by (intro h_; repeat (first | exact h_ | (with_reducible refine Marks.drewN ?_ _) | (with_reducible refine Marks.drew ?_) | (with_reducible refine Marks.alloc ?_ _) | refine Marks.far ?_ (Aside0.out (by assumption)) _))) : Kd.C (Kd.int .i64) W A l7.length l7 := (Kd.R_reads' (k h).h7).2.2
theorem mr8_ {A : Option Addr} {n c : Nat} {V W : World} (h : Marks T B V v2 v3 v4 v5 v6 v7 (.slice A n c) v9 l2 l3 l4 l5 l6 l7 l8 l9) (k : Marks T B V v2 v3 v4 v5 v6 v7 (.slice A n c) v9 l2 l3 l4 l5 l6 l7 l8 l9 → Marks T B W v2 v3 v4 v5 v6 v7 (.slice A n c) v9 l2 l3 l4 l5 l6 l7 l8 l9 := by (intro h_; repeat (first | exact h_ | (with_reducible refine Marks.drewN ?_ _) | (with_reducible refine Marks.drew ?_) | (with_reducible refine Marks.alloc ?_ _) | refine Marks.far ?_ (Aside0.out (by assumption)) _))) : Kd.C (Kd.slice 112 k112) W A l8.length l8 := (Kd.S_reads' (k h).h8).2.2
theorem mr9_ {A : Option Addr} {n c : Nat} {V W : World} (h : Marks T B V v2 v3 v4 v5 v6 v7 v8 (.slice A n c) l2 l3 l4 l5 l6 l7 l8 l9) (k : Marks T B V v2 v3 v4 v5 v6 v7 v8 (.slice A n c) l2 l3 l4 l5 l6 l7 l8 l9 → Marks T B W v2 v3 v4 v5 v6 v7 v8 (.slice A n c) l2 l3 l4 l5 l6 l7 l8 l9 := by (intro h_; repeat (first | exact h_ | (with_reducible refine Marks.drewN ?_ _) | (with_reducible refine Marks.drew ?_) | (with_reducible refine Marks.alloc ?_ _) | refine Marks.far ?_ (Aside0.out (by assumption)) _))) : Kd.C (Kd.slice 112 k112) W A l9.length l9 := (Kd.S_reads' (k h).h9).2.2
end
theorem heldR_ (k : Nat) (A : Option Addr) (c n : Nat) (l : List Int) (a r : Int) {base : Nat} {ok : Nat → Prop} (w : World) (hr : Kd.R (Kd.int .i64) 3 w base ok (.slice A n c) l) (h : laws_heldIntS.f k l a = some r) : Calls Try.prog 34 #[.slice A n c, .int .i64 a] w fun e w' => e = .returned (.int .i64 r) ∧ Drawn0 w w' := by
 obtain ⟨rfl, hc, hd⟩ := Kd.R_reads' hr
 exact laws_heldIntS.calls k _ _ l a r w hd hc h
def laws_FnExactCreditTable.f (k : Nat) (a0_0 a0_1 : Int) (l0_2 : List Int) (l0_3 : List Int) (l0_4 : List Int) (l0_5 : List (List S133)) (l0_6 : List Int) (l0_7 : List Int) (l0_8 : List (List S133)) (l0_9 : List (List S133)) (a0_10 : Int) : Option Bool :=
 (laws_szNet.f k a0_0 a0_1 l0_2 l0_3 l0_4 l0_5 l0_6 l0_7 l0_8 l0_9 a0_10 1048576).bind fun s => if s < 0 then some true else (laws_toNet.f k a0_0 a0_1 l0_2 l0_3 l0_4 l0_5 l0_6 l0_7 l0_8 l0_9 a0_10).bind fun n => (spec_CreditTable.f k n.1 n.2.1 n.2.2.1 n.2.2.2.1 n.2.2.2.2.1 n.2.2.2.2.2.1 n.2.2.2.2.2.2.1 n.2.2.2.2.2.2.2.1 n.2.2.2.2.2.2.2.2.1 n.2.2.2.2.2.2.2.2.2.1 n.2.2.2.2.2.2.2.2.2.2).bind fun w0 => (impl_CreditTable.f k n.1 n.2.1 n.2.2.1 n.2.2.2.1 n.2.2.2.2.1 n.2.2.2.2.2.1 n.2.2.2.2.2.2.1 n.2.2.2.2.2.2.2.1 n.2.2.2.2.2.2.2.2.1 n.2.2.2.2.2.2.2.2.2.1 n.2.2.2.2.2.2.2.2.2.2).bind fun g0 => (laws_eqIntS.f k g0 w0).bind fun e => if e = true then ((laws_eqNet.f k n.1 n.2.1 n.2.2.1 n.2.2.2.1 n.2.2.2.2.1 n.2.2.2.2.2.1 n.2.2.2.2.2.2.1 n.2.2.2.2.2.2.2.1 n.2.2.2.2.2.2.2.2.1 n.2.2.2.2.2.2.2.2.2.1 n.2.2.2.2.2.2.2.2.2.2 n.1 n.2.1 n.2.2.1 n.2.2.2.1 n.2.2.2.2.1 n.2.2.2.2.2.1 n.2.2.2.2.2.2.1 n.2.2.2.2.2.2.2.1 n.2.2.2.2.2.2.2.2.1 n.2.2.2.2.2.2.2.2.2.1 n.2.2.2.2.2.2.2.2.2.2).bind fun e2 => if e2 = true then ((laws_markNet.f k n.1 n.2.1 n.2.2.1 n.2.2.2.1 n.2.2.2.2.1 n.2.2.2.2.2.1 n.2.2.2.2.2.2.1 n.2.2.2.2.2.2.2.1 n.2.2.2.2.2.2.2.2.1 n.2.2.2.2.2.2.2.2.2.1 n.2.2.2.2.2.2.2.2.2.2 1).bind fun b => if b.1 < 0 then none else (laws_markIntS.f k g0 1).bind fun m => (laws_heldIntS.f k m.2 1).bind fun q => if q < 0 then none else if q = m.1 then some true else none) else none) else none
set_option maxHeartbeats 8000000 in
set_option maxRecDepth 100000 in
theorem laws_FnExactCreditTable.calls (k : Nat) (a0_0 a0_1 : Int) (A0_2 : Option Addr) (c0_2 : Nat) (l0_2 : List Int) (A0_3 : Option Addr) (c0_3 : Nat) (l0_3 : List Int) (A0_4 : Option Addr) (c0_4 : Nat) (l0_4 : List Int) (A0_5 : Option Addr) (c0_5 : Nat) (l0_5 : List (List S133)) (A0_6 : Option Addr) (c0_6 : Nat) (l0_6 : List Int) (A0_7 : Option Addr) (c0_7 : Nat) (l0_7 : List Int) (A0_8 : Option Addr) (c0_8 : Nat) (l0_8 : List (List S133)) (A0_9 : Option Addr) (c0_9 : Nat) (l0_9 : List (List S133)) (a0_10 : Int) (r : Bool) (w : World) (hr0_2 : Kd.C (Kd.int .i64) w A0_2 l0_2.length l0_2) (hc0_2 : l0_2.length ≤ c0_2) (hr0_3 : Kd.C (Kd.int .i64) w A0_3 l0_3.length l0_3) (hc0_3 : l0_3.length ≤ c0_3) (hr0_4 : Kd.C (Kd.int .i64) w A0_4 l0_4.length l0_4) (hc0_4 : l0_4.length ≤ c0_4) (hr0_5 : Kd.C (Kd.slice 133 k133) w A0_5 l0_5.length l0_5) (hc0_5 : l0_5.length ≤ c0_5) (hr0_6 : Kd.C (Kd.int .i64) w A0_6 l0_6.length l0_6) (hc0_6 : l0_6.length ≤ c0_6) (hr0_7 : Kd.C (Kd.int .i64) w A0_7 l0_7.length l0_7) (hc0_7 : l0_7.length ≤ c0_7) (hr0_8 : Kd.C (Kd.slice 133 k133) w A0_8 l0_8.length l0_8) (hc0_8 : l0_8.length ≤ c0_8) (hr0_9 : Kd.C (Kd.slice 133 k133) w A0_9 l0_9.length l0_9) (hc0_9 : l0_9.length ≤ c0_9) (h : laws_FnExactCreditTable.f k a0_0 a0_1 l0_2 l0_3 l0_4 l0_5 l0_6 l0_7 l0_8 l0_9 a0_10 = some r) :
  Calls Try.prog 6 #[.agg #[.int .i64 a0_0, .int .i64 a0_1, .slice A0_2 l0_2.length c0_2, .slice A0_3 l0_3.length c0_3, .slice A0_4 l0_4.length c0_4, .slice A0_5 l0_5.length c0_5, .slice A0_6 l0_6.length c0_6, .slice A0_7 l0_7.length c0_7, .slice A0_8 l0_8.length c0_8, .slice A0_9 l0_9.length c0_9, .int .i64 a0_10]] w fun e w' => e = .returned (.bool r) ∧ Below w.heap.size w w' := by
 have HR0_2 := Aside0.mk hr0_2
 have HC0_2 := Aside0.mk hc0_2
 have HR0_3 := Aside0.mk hr0_3
 have HC0_3 := Aside0.mk hc0_3
 have HR0_4 := Aside0.mk hr0_4
 have HC0_4 := Aside0.mk hc0_4
 have HR0_5 := Aside0.mk hr0_5
 have HC0_5 := Aside0.mk hc0_5
 have HR0_6 := Aside0.mk hr0_6
 have HC0_6 := Aside0.mk hc0_6
 have HR0_7 := Aside0.mk hr0_7
 have HC0_7 := Aside0.mk hc0_7
 have HR0_8 := Aside0.mk hr0_8
 have HC0_8 := Aside0.mk hc0_8
 have HR0_9 := Aside0.mk hr0_9
 have HC0_9 := Aside0.mk hc0_9
 clear hr0_2 hc0_2 hr0_3 hc0_3 hr0_4 hc0_4 hr0_5 hc0_5 hr0_6 hc0_6 hr0_7 hc0_7 hr0_8 hc0_8 hr0_9 hc0_9
 have HB := Aside0.mk (Below.refl w.heap.size w)
 have hu1_ := Try.underlying37
 have hu2_ := Try.underlying63
 unfold laws_FnExactCreditTable.f at h
 obtain ⟨s, e1, h⟩ := Option.bind_eq_some_iff.1 h
 have E1 := Aside0.mk e1
 clear e1
 by_cases cs : s < 0
 ·rw [if_pos cs] at h
  obtain rfl := Option.some.inj h
  have cd : decide (s < 0) = true := decide_eq_true cs
  clear cs h
  go_enter Try.func6, Try.ntmps6
  go_wp2_with (first | ((with_reducible refine gate_dst (N := 1) rfl ?_); refine box_event ?hg (N := 1) ?hd (cs := #[.int .i64 a0_0, .int .i64 a0_1, .slice A0_2 l0_2.length c0_2, .slice A0_3 l0_3.length c0_3, .slice A0_4 l0_4.length c0_4, .slice A0_5 l0_5.length c0_5, .slice A0_6 l0_6.length c0_6, .slice A0_7 l0_7.length c0_7, .slice A0_8 l0_8.length c0_8, .slice A0_9 l0_9.length c0_9, .int .i64 a0_10]) (t := 63) ?hr ?_; (case hd => rfl); (case hg => rfl); (case hr => first | (go_simp; done) | (go_simp; rfl)); intro gb hg w1 hbox hb; have BK := Aside0.mk hbox; replace HB := Aside0.mk (bs_ HB.out hb); clear hb hbox hg; obtain ⟨z0, z1, z2, z3, z4, z5, z6, z7, z8, z9, z10, f0, f1, f2, f3, f4, f5, f6, f7, f8, f9, f10⟩ := cz11_ BK.out) | (go_at_call 28; (with_reducible refine (laws_szNet.calls k a0_0 a0_1 _ _ l0_2 _ _ l0_3 _ _ l0_4 _ _ l0_5 _ _ l0_6 _ _ l0_7 _ _ l0_8 _ _ l0_9 a0_10 1048576 s _ ?side2 HC0_2.out ?side3 HC0_3.out ?side4 HC0_4.out ?side5 HC0_5.out ?side6 HC0_6.out ?side7 HC0_7.out ?side8 HC0_8.out ?side9 HC0_9.out E1.out).mono ?_); (case side2 => exact cb_ HR0_2.out HB.out); (case side3 => exact cb_ HR0_3.out HB.out); (case side4 => exact cb_ HR0_4.out HB.out); (case side5 => exact cb_ HR0_5.out HB.out); (case side6 => exact cb_ HR0_6.out HB.out); (case side7 => exact cb_ HR0_7.out HB.out); (case side8 => exact cb_ HR0_8.out HB.out); (case side9 => exact cb_ HR0_9.out HB.out); rintro e w2 ⟨rfl, hb⟩; clear z0 z1 z2 z3 z4 z5 z6 z7 z8 z9 z10 f0 f1 f2 f3 f4 f5 f6 f7 f8 f9 f10; replace BK := Aside0.mk (bk_ BK.out hb); replace HB := Aside0.mk (bs_ HB.out hb); clear hb E1; obtain ⟨z0, z1, z2, z3, z4, z5, z6, z7, z8, z9, z10, f0, f1, f2, f3, f4, f5, f6, f7, f8, f9, f10⟩ := cz11_ BK.out))
  go_ret
  exact ⟨rfl, bb_ HB.out⟩
 ·rw [if_neg cs] at h
  have cd : decide (s < 0) = false := decide_eq_false cs
  clear cs
  obtain ⟨⟨n0, n1, n2, n3, n4, n5, n6, n7, n8, n9, n10⟩, e2, h⟩ := Option.bind_eq_some_iff.1 h
  obtain ⟨w0, e3, h⟩ := Option.bind_eq_some_iff.1 h
  obtain ⟨g0, e4, h⟩ := Option.bind_eq_some_iff.1 h
  obtain ⟨b5, e5, h⟩ := Option.bind_eq_some_iff.1 h
  dsimp only at e3 e4 e5 h
  cases b5 with
  | false => rw [if_neg (by decide)] at h; cases h
  | true =>
  rw [if_pos rfl] at h
  obtain ⟨b6, e6, h⟩ := Option.bind_eq_some_iff.1 h
  cases b6 with
  | false => rw [if_neg (by decide)] at h; cases h
  | true =>
  rw [if_pos rfl] at h
  obtain ⟨⟨m1, y2, y3, y4, y5, y6, y7, y8, y9⟩, e7, h⟩ := Option.bind_eq_some_iff.1 h
  dsimp only at h
  by_cases c7 : m1 < 0
  ·rw [if_pos c7] at h; cases h
  rw [if_neg c7] at h
  obtain ⟨⟨m2, g1⟩, e8, h⟩ := Option.bind_eq_some_iff.1 h
  obtain ⟨q, e9, h⟩ := Option.bind_eq_some_iff.1 h
  dsimp only at e9 h
  by_cases c9 : q < 0
  ·rw [if_pos c9] at h; cases h
  rw [if_neg c9] at h
  by_cases c10 : q = m2
  rotate_left
  ·rw [if_neg c10] at h; cases h
  rw [if_pos c10] at h
  obtain rfl := Option.some.inj h
  subst c10
  have c7d : decide (m1 < 0) = false := decide_eq_false c7
  have c9d : decide (q < 0) = false := decide_eq_false c9
  have cqn : (q != q) = false := by simp
  have E2a := Aside0.mk e2
  have E2b := Aside0.mk e2
  have E2c := Aside0.mk e2
  have E2d := Aside0.mk e2
  have E3 := Aside0.mk e3
  have E4a := Aside0.mk e4
  have E4b := Aside0.mk e4
  have E5a := Aside0.mk e5
  have E5b := Aside0.mk e5
  have E5c := Aside0.mk e5
  have E6 := Aside0.mk e6
  have E7 := Aside0.mk e7
  have E8 := Aside0.mk e8
  have E9a := Aside0.mk e9
  have E9b := Aside0.mk e9
  clear e2 e3 e4 e5 e6 e7 e8 e9 h c7 c9
  go_enter Try.func6, Try.ntmps6
  go_wp2_with (first | ((with_reducible refine gate_dst (N := 1) rfl ?_); refine box_event ?hg (N := 1) ?hd (cs := #[.int .i64 a0_0, .int .i64 a0_1, .slice A0_2 l0_2.length c0_2, .slice A0_3 l0_3.length c0_3, .slice A0_4 l0_4.length c0_4, .slice A0_5 l0_5.length c0_5, .slice A0_6 l0_6.length c0_6, .slice A0_7 l0_7.length c0_7, .slice A0_8 l0_8.length c0_8, .slice A0_9 l0_9.length c0_9, .int .i64 a0_10]) (t := 63) ?hr ?_; (case hd => rfl); (case hg => rfl); (case hr => first | (go_simp; done) | (go_simp; rfl)); intro gb hg w1 hbox hb; have BK := Aside0.mk hbox; replace HB := Aside0.mk (bs_ HB.out hb); clear hb hbox hg; obtain ⟨z0, z1, z2, z3, z4, z5, z6, z7, z8, z9, z10, f0, f1, f2, f3, f4, f5, f6, f7, f8, f9, f10⟩ := cz11_ BK.out) | (go_at_call 28; (with_reducible refine (laws_szNet.calls k a0_0 a0_1 _ _ l0_2 _ _ l0_3 _ _ l0_4 _ _ l0_5 _ _ l0_6 _ _ l0_7 _ _ l0_8 _ _ l0_9 a0_10 1048576 s _ ?side2 HC0_2.out ?side3 HC0_3.out ?side4 HC0_4.out ?side5 HC0_5.out ?side6 HC0_6.out ?side7 HC0_7.out ?side8 HC0_8.out ?side9 HC0_9.out E1.out).mono ?_); (case side2 => exact cb_ HR0_2.out HB.out); (case side3 => exact cb_ HR0_3.out HB.out); (case side4 => exact cb_ HR0_4.out HB.out); (case side5 => exact cb_ HR0_5.out HB.out); (case side6 => exact cb_ HR0_6.out HB.out); (case side7 => exact cb_ HR0_7.out HB.out); (case side8 => exact cb_ HR0_8.out HB.out); (case side9 => exact cb_ HR0_9.out HB.out); rintro e w2 ⟨rfl, hb⟩; clear z0 z1 z2 z3 z4 z5 z6 z7 z8 z9 z10 f0 f1 f2 f3 f4 f5 f6 f7 f8 f9 f10; replace BK := Aside0.mk (bk_ BK.out hb); replace HB := Aside0.mk (bs_ HB.out hb); clear hb E1; obtain ⟨z0, z1, z2, z3, z4, z5, z6, z7, z8, z9, z10, f0, f1, f2, f3, f4, f5, f6, f7, f8, f9, f10⟩ := cz11_ BK.out) | (go_at_call 30; (with_reducible refine (laws_toNet.callsT k a0_0 a0_1 _ _ l0_2 _ _ l0_3 _ _ l0_4 _ _ l0_5 _ _ l0_6 _ _ l0_7 _ _ l0_8 _ _ l0_9 a0_10 n0 n1 n2 n3 n4 n5 n6 n7 n8 n9 n10 _ ?side2 HC0_2.out ?side3 HC0_3.out ?side4 HC0_4.out ?side5 HC0_5.out ?side6 HC0_6.out ?side7 HC0_7.out ?side8 HC0_8.out ?side9 HC0_9.out E2a.out).mono ?_); (case side2 => exact cb_ HR0_2.out HB.out); (case side3 => exact cb_ HR0_3.out HB.out); (case side4 => exact cb_ HR0_4.out HB.out); (case side5 => exact cb_ HR0_5.out HB.out); (case side6 => exact cb_ HR0_6.out HB.out); (case side7 => exact cb_ HR0_7.out HB.out); (case side8 => exact cb_ HR0_8.out HB.out); (case side9 => exact cb_ HR0_9.out HB.out); rintro e wa ⟨T1, u2, u3, u4, u5, u6, u7, u8, u9, rfl, hm, hb⟩; clear z0 z1 z2 z3 z4 z5 z6 z7 z8 z9 z10 f0 f1 f2 f3 f4 f5 f6 f7 f8 f9 f10; have M1 := Aside0.mk hm; replace BK := Aside0.mk (bk_ BK.out hb); replace HB := Aside0.mk (bs_ HB.out hb); clear hm hb E2a; obtain ⟨z0, z1, z2, z3, z4, z5, z6, z7, z8, z9, z10, f0, f1, f2, f3, f4, f5, f6, f7, f8, f9, f10⟩ := cz11_ BK.out; obtain ⟨A2, dA2, rfl⟩ := Kd.R_slice M1.out.h2; obtain ⟨A3, dA3, rfl⟩ := Kd.R_slice M1.out.h3; obtain ⟨A4, dA4, rfl⟩ := Kd.R_slice M1.out.h4; obtain ⟨A5, dA5, rfl⟩ := Kd.S_slice M1.out.h5; obtain ⟨A6, dA6, rfl⟩ := Kd.R_slice M1.out.h6; obtain ⟨A7, dA7, rfl⟩ := Kd.R_slice M1.out.h7; obtain ⟨A8, dA8, rfl⟩ := Kd.S_slice M1.out.h8; obtain ⟨A9, dA9, rfl⟩ := Kd.S_slice M1.out.h9) | (go_at_call 35; (with_reducible refine (spec_CreditTable.calls k n0 n1 _ _ n2 _ _ n3 _ _ n4 _ _ n5 _ _ n6 _ _ n7 _ _ n8 _ _ n9 n10 w0 _ ?s2 (Kd.R_reads' M1.out.h2).2.1 ?s3 (Kd.R_reads' M1.out.h3).2.1 ?s4 (Kd.R_reads' M1.out.h4).2.1 ?s5 (Kd.S_reads' M1.out.h5).2.1 ?s6 (Kd.R_reads' M1.out.h6).2.1 ?s7 (Kd.R_reads' M1.out.h7).2.1 ?s8 (Kd.S_reads' M1.out.h8).2.1 ?s9 (Kd.S_reads' M1.out.h9).2.1 E3.out).mono ?_); (case s2 => exact mr2_ M1.out); (case s3 => exact mr3_ M1.out); (case s4 => exact mr4_ M1.out); (case s5 => exact mr5_ M1.out); (case s6 => exact mr6_ M1.out); (case s7 => exact mr7_ M1.out); (case s8 => exact mr8_ M1.out); (case s9 => exact mr9_ M1.out); rintro e w4 ⟨v, rfl, ho, hb⟩; have HW := Aside0.mk (Kd.R_lower ho (bz_ HB.out)); obtain ⟨Aw, cw, rfl⟩ := Kd.R_slice HW.out; clear z0 z1 z2 z3 z4 z5 z6 z7 z8 z9 z10 f0 f1 f2 f3 f4 f5 f6 f7 f8 f9 f10; replace BK := Aside0.mk (bk_ BK.out hb); replace HB := Aside0.mk (bs_ HB.out hb); clear ho hb M1 E3; obtain ⟨z0, z1, z2, z3, z4, z5, z6, z7, z8, z9, z10, f0, f1, f2, f3, f4, f5, f6, f7, f8, f9, f10⟩ := cz11_ BK.out) | (go_at_call 30; (with_reducible refine (laws_toNet.callsT k a0_0 a0_1 _ _ l0_2 _ _ l0_3 _ _ l0_4 _ _ l0_5 _ _ l0_6 _ _ l0_7 _ _ l0_8 _ _ l0_9 a0_10 n0 n1 n2 n3 n4 n5 n6 n7 n8 n9 n10 _ ?side2 HC0_2.out ?side3 HC0_3.out ?side4 HC0_4.out ?side5 HC0_5.out ?side6 HC0_6.out ?side7 HC0_7.out ?side8 HC0_8.out ?side9 HC0_9.out E2b.out).mono ?_); (case side2 => exact cb_ HR0_2.out HB.out); (case side3 => exact cb_ HR0_3.out HB.out); (case side4 => exact cb_ HR0_4.out HB.out); (case side5 => exact cb_ HR0_5.out HB.out); (case side6 => exact cb_ HR0_6.out HB.out); (case side7 => exact cb_ HR0_7.out HB.out); (case side8 => exact cb_ HR0_8.out HB.out); (case side9 => exact cb_ HR0_9.out HB.out); rintro e wt ⟨T, u2, u3, u4, u5, u6, u7, u8, u9, rfl, hm, hb⟩; clear z0 z1 z2 z3 z4 z5 z6 z7 z8 z9 z10 f0 f1 f2 f3 f4 f5 f6 f7 f8 f9 f10; replace HW := Aside0.mk (Kd.R_below (Kd.R_mono (ok' := fun k_ => T k_ = 0) (Kd.R_bound (ra_ HW.out)) (fun k_ hk_ => Classical.byContradiction (fun h_ => Nat.not_lt.2 (hm.lo k_ h_) hk_.2.2.1))) hb); have TG := Aside0.mk (show T gb = 0 from Classical.byContradiction (fun h_ => Nat.not_lt.2 (hm.lo gb h_) (blk_lt (bq_ BK.out)))); have M := Aside0.mk (hm.lower (bz_ HB.out)); replace BK := Aside0.mk (bk_ BK.out hb); replace HB := Aside0.mk (bs_ HB.out hb); clear hm hb E2b; obtain ⟨z0, z1, z2, z3, z4, z5, z6, z7, z8, z9, z10, f0, f1, f2, f3, f4, f5, f6, f7, f8, f9, f10⟩ := cz11_ BK.out; obtain ⟨B2, dB2, rfl⟩ := Kd.R_slice M.out.h2; obtain ⟨B3, dB3, rfl⟩ := Kd.R_slice M.out.h3; obtain ⟨B4, dB4, rfl⟩ := Kd.R_slice M.out.h4; obtain ⟨B5, dB5, rfl⟩ := Kd.S_slice M.out.h5; obtain ⟨B6, dB6, rfl⟩ := Kd.R_slice M.out.h6; obtain ⟨B7, dB7, rfl⟩ := Kd.R_slice M.out.h7; obtain ⟨B8, dB8, rfl⟩ := Kd.S_slice M.out.h8; obtain ⟨B9, dB9, rfl⟩ := Kd.S_slice M.out.h9) | (go_at_call 36; (with_reducible refine (impl_CreditTable.calls k n0 n1 _ _ n2 _ _ n3 _ _ n4 _ _ n5 _ _ n6 _ _ n7 _ _ n8 _ _ n9 n10 g0 _ ?s2 (Kd.R_reads' M.out.h2).2.1 ?s3 (Kd.R_reads' M.out.h3).2.1 ?s4 (Kd.R_reads' M.out.h4).2.1 ?s5 (Kd.S_reads' M.out.h5).2.1 ?s6 (Kd.R_reads' M.out.h6).2.1 ?s7 (Kd.R_reads' M.out.h7).2.1 ?s8 (Kd.S_reads' M.out.h8).2.1 ?s9 (Kd.S_reads' M.out.h9).2.1 E4a.out).mono ?_); (case s2 => exact mr2_ M.out); (case s3 => exact mr3_ M.out); (case s4 => exact mr4_ M.out); (case s5 => exact mr5_ M.out); (case s6 => exact mr6_ M.out); (case s7 => exact mr7_ M.out); (case s8 => exact mr8_ M.out); (case s9 => exact mr9_ M.out); rintro e w6 ⟨v, rfl, ho, hb⟩; have HG := Aside0.mk (Kd.R_lower (Kd.R_mono (ok' := fun k_ => T k_ = 0) (Kd.R_bound ho) (fun k_ hk_ => Classical.byContradiction (fun h_ => Nat.not_lt.2 hk_.2.1 (Marks.hi (mm_ M.out) k_ h_)))) (bz_ HB.out)); replace HW := Aside0.mk (Kd.R_elder' (ra_ HW.out) (Kd.R_base ho) hb); replace M := Aside0.mk ((mm_ M.out).below hb); have BX := Aside0.mk (blk_below (blk_new wt _) hb); clear z0 z1 z2 z3 z4 z5 z6 z7 z8 z9 z10 f0 f1 f2 f3 f4 f5 f6 f7 f8 f9 f10; replace BK := Aside0.mk (bk_ BK.out hb); replace HB := Aside0.mk (bs_ HB.out hb); obtain ⟨Ag, cg, rfl⟩ := Kd.R_slice HG.out; have NG := Aside0.mk (Kd.R_ne HG.out BK.out (by decide)); clear ho hb E4a; obtain ⟨z0, z1, z2, z3, z4, z5, z6, z7, z8, z9, z10, f0, f1, f2, f3, f4, f5, f6, f7, f8, f9, f10⟩ := cz11_ BK.out; obtain ⟨x0, x1, x2, x3, x4, x5, x6, x7, x8, x9, x10, g0_, g1_, g2_, g3_, g4_, g5_, g6_, g7_, g8_, g9_, g10_⟩ := cz11_ BX.out) | (go_at_call 32; (with_reducible refine (laws_eqIntS.calls k _ _ g0 _ _ w0 true _ ?s1 ?s2 ?s3 ?s4 E5a.out).mono ?_); (case s1 => repeat (first | exact (Kd.R_reads' HG.out).2.2 | (with_reducible refine Kd.C_alloc ?_ _) | (with_reducible refine Kd.C_drewN ?_ _) | (with_reducible refine Kd.C_drew ?_))); (case s2 => exact (Kd.R_reads' HG.out).2.1); (case s3 => repeat (first | exact (Kd.R_reads' HW.out).2.2 | (with_reducible refine Kd.C_alloc ?_ _) | (with_reducible refine Kd.C_drewN ?_ _) | (with_reducible refine Kd.C_drew ?_))); (case s4 => exact (Kd.R_reads' HW.out).2.1); rintro e w' ⟨rfl, ⟨nd, rfl⟩⟩; clear E5a))
  go_region_held3 (fun w' => w'.cell? ⟨wt.heap.size, 0, none⟩ = some (.int .i64 n0) ∧ w'.cell? ⟨wt.heap.size, 1, none⟩ = some (.int .i64 n1) ∧ w'.cell? ⟨wt.heap.size, 2, none⟩ = some (.slice B2 n2.length dB2) ∧ w'.cell? ⟨wt.heap.size, 3, none⟩ = some (.slice B3 n3.length dB3) ∧ w'.cell? ⟨wt.heap.size, 4, none⟩ = some (.slice B4 n4.length dB4) ∧ w'.cell? ⟨wt.heap.size, 5, none⟩ = some (.slice B5 n5.length dB5) ∧ w'.cell? ⟨wt.heap.size, 6, none⟩ = some (.slice B6 n6.length dB6) ∧ w'.cell? ⟨wt.heap.size, 7, none⟩ = some (.slice B7 n7.length dB7) ∧ w'.cell? ⟨wt.heap.size, 8, none⟩ = some (.slice B8 n8.length dB8) ∧ w'.cell? ⟨wt.heap.size, 9, none⟩ = some (.slice B9 n9.length dB9) ∧ w'.cell? ⟨wt.heap.size, 10, none⟩ = some (.int .i64 n10) ∧ w'.cell? ⟨gb, 0, none⟩ = some (.int .i64 a0_0) ∧ w'.cell? ⟨gb, 1, none⟩ = some (.int .i64 a0_1) ∧ w'.cell? ⟨gb, 2, none⟩ = some (.slice A0_2 l0_2.length c0_2) ∧ w'.cell? ⟨gb, 3, none⟩ = some (.slice A0_3 l0_3.length c0_3) ∧ w'.cell? ⟨gb, 4, none⟩ = some (.slice A0_4 l0_4.length c0_4) ∧ w'.cell? ⟨gb, 5, none⟩ = some (.slice A0_5 l0_5.length c0_5) ∧ w'.cell? ⟨gb, 6, none⟩ = some (.slice A0_6 l0_6.length c0_6) ∧ w'.cell? ⟨gb, 7, none⟩ = some (.slice A0_7 l0_7.length c0_7) ∧ w'.cell? ⟨gb, 8, none⟩ = some (.slice A0_8 l0_8.length c0_8) ∧ w'.cell? ⟨gb, 9, none⟩ = some (.slice A0_9 l0_9.length c0_9) ∧ w'.cell? ⟨gb, 10, none⟩ = some (.int .i64 a0_10))
   (exact ⟨x0, x1, x2, x3, x4, x5, x6, x7, x8, x9, x10, z0, z1, z2, z3, z4, z5, z6, z7, z8, z9, z10⟩)
   (first | (go_at_call 30; (with_reducible refine (laws_toNet.callsT k a0_0 a0_1 _ _ l0_2 _ _ l0_3 _ _ l0_4 _ _ l0_5 _ _ l0_6 _ _ l0_7 _ _ l0_8 _ _ l0_9 a0_10 n0 n1 n2 n3 n4 n5 n6 n7 n8 n9 n10 _ ?side2 HC0_2.out ?side3 HC0_3.out ?side4 HC0_4.out ?side5 HC0_5.out ?side6 HC0_6.out ?side7 HC0_7.out ?side8 HC0_8.out ?side9 HC0_9.out E2c.out).mono ?_); (case side2 => exact cb_ HR0_2.out HB.out); (case side3 => exact cb_ HR0_3.out HB.out); (case side4 => exact cb_ HR0_4.out HB.out); (case side5 => exact cb_ HR0_5.out HB.out); (case side6 => exact cb_ HR0_6.out HB.out); (case side7 => exact cb_ HR0_7.out HB.out); (case side8 => exact cb_ HR0_8.out HB.out); (case side9 => exact cb_ HR0_9.out HB.out); rintro e wc ⟨T3, u2, u3, u4, u5, u6, u7, u8, u9, rfl, hm, hb⟩; clear z0 z1 z2 z3 z4 z5 z6 z7 z8 z9 z10 f0 f1 f2 f3 f4 f5 f6 f7 f8 f9 f10; have M3 := Aside0.mk hm; replace HW := Aside0.mk (Kd.R_below (ra_ HW.out) hb); replace HG := Aside0.mk (Kd.R_below (ra_ HG.out) hb); replace M := Aside0.mk ((mm_ M.out).below hb); clear x0 x1 x2 x3 x4 x5 x6 x7 x8 x9 x10 g0_ g1_ g2_ g3_ g4_ g5_ g6_ g7_ g8_ g9_ g10_; replace BX := Aside0.mk (bk_ BX.out hb); obtain ⟨x0, x1, x2, x3, x4, x5, x6, x7, x8, x9, x10, g0_, g1_, g2_, g3_, g4_, g5_, g6_, g7_, g8_, g9_, g10_⟩ := cz11_ BX.out; replace BK := Aside0.mk (bk_ BK.out hb); replace HB := Aside0.mk (bs_ HB.out hb); clear hm hb E2c; obtain ⟨z0, z1, z2, z3, z4, z5, z6, z7, z8, z9, z10, f0, f1, f2, f3, f4, f5, f6, f7, f8, f9, f10⟩ := cz11_ BK.out; obtain ⟨C2, dC2, rfl⟩ := Kd.R_slice M3.out.h2; obtain ⟨C3, dC3, rfl⟩ := Kd.R_slice M3.out.h3; obtain ⟨C4, dC4, rfl⟩ := Kd.R_slice M3.out.h4; obtain ⟨C5, dC5, rfl⟩ := Kd.S_slice M3.out.h5; obtain ⟨C6, dC6, rfl⟩ := Kd.R_slice M3.out.h6; obtain ⟨C7, dC7, rfl⟩ := Kd.R_slice M3.out.h7; obtain ⟨C8, dC8, rfl⟩ := Kd.S_slice M3.out.h8; obtain ⟨C9, dC9, rfl⟩ := Kd.S_slice M3.out.h9) | (go_at_call 21; (with_reducible refine (laws_eqNet.calls k n0 n1 _ _ n2 _ _ n3 _ _ n4 _ _ n5 _ _ n6 _ _ n7 _ _ n8 _ _ n9 n10 n0 n1 _ _ n2 _ _ n3 _ _ n4 _ _ n5 _ _ n6 _ _ n7 _ _ n8 _ _ n9 n10 true _ ?s2 (Kd.R_reads' M.out.h2).2.1 ?s3 (Kd.R_reads' M.out.h3).2.1 ?s4 (Kd.R_reads' M.out.h4).2.1 ?s5 (Kd.S_reads' M.out.h5).2.1 ?s6 (Kd.R_reads' M.out.h6).2.1 ?s7 (Kd.R_reads' M.out.h7).2.1 ?s8 (Kd.S_reads' M.out.h8).2.1 ?s9 (Kd.S_reads' M.out.h9).2.1 ?s22 (Kd.R_reads' M3.out.h2).2.1 ?s23 (Kd.R_reads' M3.out.h3).2.1 ?s24 (Kd.R_reads' M3.out.h4).2.1 ?s25 (Kd.S_reads' M3.out.h5).2.1 ?s26 (Kd.R_reads' M3.out.h6).2.1 ?s27 (Kd.R_reads' M3.out.h7).2.1 ?s28 (Kd.S_reads' M3.out.h8).2.1 ?s29 (Kd.S_reads' M3.out.h9).2.1 E6.out).mono ?_); (case s2 => exact mr2_ M.out); (case s3 => exact mr3_ M.out); (case s4 => exact mr4_ M.out); (case s5 => exact mr5_ M.out); (case s6 => exact mr6_ M.out); (case s7 => exact mr7_ M.out); (case s8 => exact mr8_ M.out); (case s9 => exact mr9_ M.out); (case s22 => exact mr2_ M3.out); (case s23 => exact mr3_ M3.out); (case s24 => exact mr4_ M3.out); (case s25 => exact mr5_ M3.out); (case s26 => exact mr6_ M3.out); (case s27 => exact mr7_ M3.out); (case s28 => exact mr8_ M3.out); (case s29 => exact mr9_ M3.out); rintro e w7 ⟨rfl, hb⟩; replace HW := Aside0.mk (Kd.R_below (ra_ HW.out) hb); replace HG := Aside0.mk (Kd.R_below (ra_ HG.out) hb); replace M := Aside0.mk ((mm_ M.out).below hb); clear x0 x1 x2 x3 x4 x5 x6 x7 x8 x9 x10 g0_ g1_ g2_ g3_ g4_ g5_ g6_ g7_ g8_ g9_ g10_; clear z0 z1 z2 z3 z4 z5 z6 z7 z8 z9 z10 f0 f1 f2 f3 f4 f5 f6 f7 f8 f9 f10; replace BX := Aside0.mk (bk_ BX.out hb); replace BK := Aside0.mk (bk_ BK.out hb); replace HB := Aside0.mk (bs_ HB.out hb); clear hb M3 E6; obtain ⟨x0, x1, x2, x3, x4, x5, x6, x7, x8, x9, x10, g0_, g1_, g2_, g3_, g4_, g5_, g6_, g7_, g8_, g9_, g10_⟩ := cz11_ BX.out; obtain ⟨z0, z1, z2, z3, z4, z5, z6, z7, z8, z9, z10, f0, f1, f2, f3, f4, f5, f6, f7, f8, f9, f10⟩ := cz11_ BK.out))
  go_wp2_with (first | (go_at_call 26; (with_reducible refine (laws_markNet.calls k T _ _ _ _ _ _ _ _ n0 n1 n2 n3 n4 n5 n6 n7 n8 n9 n10 1 m1 y2 y3 y4 y5 y6 y7 y8 y9 w _ ?s1 ?s2 E7.out).mono ?_); (case s1 => exact bb_ HB.out); (case s2 => exact mm_ M.out); rintro e w8 ⟨rfl, hm, hb, hk⟩; replace HW := Aside0.mk (Kd.R_kept (ra_ HW.out) hk (fun k_ a_ b_ => b_ a_.1)); replace HG := Aside0.mk (Kd.R_kept (ra_ HG.out) hk (fun k_ a_ b_ => b_ a_)); have BK1 := Aside0.mk (blk_kept (bq_ BK.out) hk (fun h_ => h_ TG.out)); replace HB := Aside0.mk hb; clear x0 x1 x2 x3 x4 x5 x6 x7 x8 x9 x10 g0_ g1_ g2_ g3_ g4_ g5_ g6_ g7_ g8_ g9_ g10_; clear z0 z1 z2 z3 z4 z5 z6 z7 z8 z9 z10 f0 f1 f2 f3 f4 f5 f6 f7 f8 f9 f10; replace BK := BK1; clear hm hb hk BK1 M BX E7; obtain ⟨z0, z1, z2, z3, z4, z5, z6, z7, z8, z9, z10, f0, f1, f2, f3, f4, f5, f6, f7, f8, f9, f10⟩ := cz11_ BK.out) | (go_at_call 32; (with_reducible refine (laws_eqIntS.calls k _ _ g0 _ _ w0 true _ ?s1 ?s2 ?s3 ?s4 E5b.out).mono ?_); (case s1 => repeat (first | exact (Kd.R_reads' HG.out).2.2 | (with_reducible refine Kd.C_alloc ?_ _) | (with_reducible refine Kd.C_drewN ?_ _) | (with_reducible refine Kd.C_drew ?_))); (case s2 => exact (Kd.R_reads' HG.out).2.1); (case s3 => repeat (first | exact (Kd.R_reads' HW.out).2.2 | (with_reducible refine Kd.C_alloc ?_ _) | (with_reducible refine Kd.C_drewN ?_ _) | (with_reducible refine Kd.C_drew ?_))); (case s4 => exact (Kd.R_reads' HW.out).2.1); rintro e w' ⟨rfl, ⟨nd, rfl⟩⟩; clear E5b) | (go_at_call 33; (with_reducible refine (laws_markIntS.calls k (fun k_ => some k_ = (.slice Ag g0.length cg : Value).ownBlock) _ g0 1 _ _ w _ ?s1 ?s2 E8.out).mono ?_); (case s1 => exact bb_ HB.out); (case s2 => exact Kd.R_tight rfl (ra_ HG.out)); rintro e w9 ⟨rfl, hq, hb, hk⟩; replace HW := Aside0.mk (Kd.R_kept (ra_ HW.out) hk (fun k_ a_ b_ => a_.2 b_)); have BK1 := Aside0.mk (blk_kept (bq_ BK.out) hk (fun h_ => NG.out h_)); replace HG := Aside0.mk hq; replace HB := Aside0.mk hb; clear z0 z1 z2 z3 z4 z5 z6 z7 z8 z9 z10 f0 f1 f2 f3 f4 f5 f6 f7 f8 f9 f10; replace BK := BK1; clear hq hb hk BK1 E8; obtain ⟨z0, z1, z2, z3, z4, z5, z6, z7, z8, z9, z10, f0, f1, f2, f3, f4, f5, f6, f7, f8, f9, f10⟩ := cz11_ BK.out) | (go_at_call 34; (with_reducible refine (heldR_ k Ag cg g0.length g1 1 q _ (ra_ HG.out) E9a.out).mono ?_); rintro e w' ⟨rfl, ⟨nd, rfl⟩⟩; clear E9a) | (go_at_call 30; (with_reducible refine (laws_toNet.callsT k a0_0 a0_1 _ _ l0_2 _ _ l0_3 _ _ l0_4 _ _ l0_5 _ _ l0_6 _ _ l0_7 _ _ l0_8 _ _ l0_9 a0_10 n0 n1 n2 n3 n4 n5 n6 n7 n8 n9 n10 _ ?side2 HC0_2.out ?side3 HC0_3.out ?side4 HC0_4.out ?side5 HC0_5.out ?side6 HC0_6.out ?side7 HC0_7.out ?side8 HC0_8.out ?side9 HC0_9.out E2d.out).mono ?_); (case side2 => exact cb_ HR0_2.out HB.out); (case side3 => exact cb_ HR0_3.out HB.out); (case side4 => exact cb_ HR0_4.out HB.out); (case side5 => exact cb_ HR0_5.out HB.out); (case side6 => exact cb_ HR0_6.out HB.out); (case side7 => exact cb_ HR0_7.out HB.out); (case side8 => exact cb_ HR0_8.out HB.out); (case side9 => exact cb_ HR0_9.out HB.out); rintro e wd ⟨T4, u2, u3, u4, u5, u6, u7, u8, u9, rfl, hm, hb⟩; clear z0 z1 z2 z3 z4 z5 z6 z7 z8 z9 z10 f0 f1 f2 f3 f4 f5 f6 f7 f8 f9 f10; have M4 := Aside0.mk hm; replace HW := Aside0.mk (Kd.R_below (ra_ HW.out) hb); replace HG := Aside0.mk (Kd.R_below (ra_ HG.out) hb); replace BK := Aside0.mk (bk_ BK.out hb); replace HB := Aside0.mk (bs_ HB.out hb); clear hm hb E2d; obtain ⟨z0, z1, z2, z3, z4, z5, z6, z7, z8, z9, z10, f0, f1, f2, f3, f4, f5, f6, f7, f8, f9, f10⟩ := cz11_ BK.out; obtain ⟨D2, dD2, rfl⟩ := Kd.R_slice M4.out.h2; obtain ⟨D3, dD3, rfl⟩ := Kd.R_slice M4.out.h3; obtain ⟨D4, dD4, rfl⟩ := Kd.R_slice M4.out.h4; obtain ⟨D5, dD5, rfl⟩ := Kd.S_slice M4.out.h5; obtain ⟨D6, dD6, rfl⟩ := Kd.R_slice M4.out.h6; obtain ⟨D7, dD7, rfl⟩ := Kd.R_slice M4.out.h7; obtain ⟨D8, dD8, rfl⟩ := Kd.S_slice M4.out.h8; obtain ⟨D9, dD9, rfl⟩ := Kd.S_slice M4.out.h9) | (go_at_call 36; (with_reducible refine (impl_CreditTable.calls k n0 n1 _ _ n2 _ _ n3 _ _ n4 _ _ n5 _ _ n6 _ _ n7 _ _ n8 _ _ n9 n10 g0 _ ?s2 (Kd.R_reads' M4.out.h2).2.1 ?s3 (Kd.R_reads' M4.out.h3).2.1 ?s4 (Kd.R_reads' M4.out.h4).2.1 ?s5 (Kd.S_reads' M4.out.h5).2.1 ?s6 (Kd.R_reads' M4.out.h6).2.1 ?s7 (Kd.R_reads' M4.out.h7).2.1 ?s8 (Kd.S_reads' M4.out.h8).2.1 ?s9 (Kd.S_reads' M4.out.h9).2.1 E4b.out).mono ?_); (case s2 => exact mr2_ M4.out); (case s3 => exact mr3_ M4.out); (case s4 => exact mr4_ M4.out); (case s5 => exact mr5_ M4.out); (case s6 => exact mr6_ M4.out); (case s7 => exact mr7_ M4.out); (case s8 => exact mr8_ M4.out); (case s9 => exact mr9_ M4.out); rintro e wa ⟨v, rfl, ho, hb⟩; have HH := Aside0.mk ho; obtain ⟨Ah, ch, rfl⟩ := Kd.R_slice HH.out; replace HW := Aside0.mk (Kd.R_below (ra_ HW.out) hb); replace HG := Aside0.mk (Kd.R_below (ra_ HG.out) hb); clear z0 z1 z2 z3 z4 z5 z6 z7 z8 z9 z10 f0 f1 f2 f3 f4 f5 f6 f7 f8 f9 f10; replace BK := Aside0.mk (bk_ BK.out hb); replace HB := Aside0.mk (bs_ HB.out hb); clear ho hb M4 E4b; obtain ⟨z0, z1, z2, z3, z4, z5, z6, z7, z8, z9, z10, f0, f1, f2, f3, f4, f5, f6, f7, f8, f9, f10⟩ := cz11_ BK.out) | (go_at_call 32; (with_reducible refine (laws_eqIntS.calls k _ _ g0 _ _ w0 true _ ?s1 ?s2 ?s3 ?s4 E5c.out).mono ?_); (case s1 => repeat (first | exact (Kd.R_reads' HH.out).2.2 | (with_reducible refine Kd.C_alloc ?_ _) | (with_reducible refine Kd.C_drewN ?_ _) | (with_reducible refine Kd.C_drew ?_))); (case s2 => exact (Kd.R_reads' HH.out).2.1); (case s3 => repeat (first | exact (Kd.R_reads' HW.out).2.2 | (with_reducible refine Kd.C_alloc ?_ _) | (with_reducible refine Kd.C_drewN ?_ _) | (with_reducible refine Kd.C_drew ?_))); (case s4 => exact (Kd.R_reads' HW.out).2.1); rintro e w' ⟨rfl, ⟨nd, rfl⟩⟩; clear E5c) | (go_at_call 34; (with_reducible refine (heldR_ k Ag cg g0.length g1 1 q _ (ra_ HG.out) E9b.out).mono ?_); rintro e w' ⟨rfl, ⟨nd, rfl⟩⟩; clear E9b))
  go_ret
  exact ⟨rfl, bb_ HB.out⟩

end Go.Proofs.Ytaofkfooijfjbaa.PFnExactCreditTable
-- thin
