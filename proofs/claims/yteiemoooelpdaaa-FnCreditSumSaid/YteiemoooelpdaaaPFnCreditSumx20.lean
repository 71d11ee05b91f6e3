
import Derived.Test.YteiemoooelpdaaaPFnCreditSumx0
import Derived.Test.YteiemoooelpdaaaPFnCreditSumx2
import Derived.Test.YteiemoooelpdaaaPFnCreditSumx3
import Derived.Test.YteiemoooelpdaaaPFnCreditSumx19
namespace Go.Proofs.Yteiemoooelpdaaa.PFnCreditSum
open Go.RowKit Go.Proofs.YteiemoooelpdaaaW.PrintWords Go.Proofs.YteiemoooelpdaaaW.PrintLast Go.Proofs.YteiemoooelpdaaaW.PrintMore
attribute [local go_sem] max2_int min2_int max_two min_two max_three min_three max_four min_four
set_option linter.unusedVariables false
set_option maxHeartbeats 8000000
set_option maxRecDepth 100000
set_option linter.unusedSimpArgs false
def impl_BufferAt.f (a0 : Int) (a1 : Int) (a2 : Int) : Option (Int) := (impl_inside.f a0 0 15).bind fun t474 => (if t474 = true then ((impl_inside.f a1 0 4).bind fun t475 => (if t475 = true then ((impl_inside.f a2 0 1).bind fun t476 => (if t476 = true then (some (wrap64 ((wrap64 ((wrap64 ((wrap64 (5 * a0)) + a1)) * 2)) + a2))) else (some (-1)))) else (some (-1)))) else (some (-1)))
theorem impl_BufferAt.e0 {P : Prop} (h : P := by
 go_enter Try.func45, Try.ntmps45
 go_wp2_with (first | ((with_reducible refine gate_callee (f := 22) rfl ?_); refine gm_ (some 8) Try.func22 #[.int .i64 a0, .int .i64 0, .int .i64 15] rfl ?_; (with_reducible refine (impl_inside.calls a0 0 15 _ _ A4.out).mono ?_); rintro e w' ⟨rfl, ⟨nd, rfl⟩⟩; refine ⟨_, rfl, ?_⟩) | (go_at_call 22; (with_reducible refine (impl_inside.calls a1 0 4 _ _ A6.out).mono ?_); rintro e w' ⟨rfl, ⟨nd, rfl⟩⟩) | (go_at_call 22; (with_reducible refine (impl_inside.calls a2 0 1 _ _ A8.out).mono ?_); rintro e w' ⟨rfl, ⟨nd, rfl⟩⟩))
 go_ret
 exact ⟨by first | rfl | (simp; done) | (simp [*]; done), by repeat (first | exact Drawn0.refl _ | apply Drawn0.step)⟩) : P := h
theorem impl_BufferAt.calls (a0 : Int) (a1 : Int) (a2 : Int) (r : Int) (w : World) (h : impl_BufferAt.f a0 a1 a2 = some r) :
  Calls Try.prog 45 #[.int .i64 a0, .int .i64 a1, .int .i64 a2] w fun e w' => e = .returned (.int .i64 r) ∧ Drawn0 w w' := by
 have H : ((impl_inside.f a0 0 15).bind fun t474 => (if t474 = true then ((impl_inside.f a1 0 4).bind fun t475 => (if t475 = true then ((impl_inside.f a2 0 1).bind fun t476 => (if t476 = true then (some (wrap64 ((wrap64 ((wrap64 ((wrap64 (5 * a0)) + a1)) * 2)) + a2))) else (some (-1)))) else (some (-1)))) else (some (-1)))) = some r := h
 clear h
 obtain ⟨t474, A4, H⟩ := bi_ H
 by_cases c5 : t474 = true
 ·subst c5
  rw [if_pos rfl] at H
  obtain ⟨t475, A6, H⟩ := bi_ H
  by_cases c7 : t475 = true
  rotate_left
  ·replace c7 := Bool.eq_false_iff.mpr c7
   subst c7
   rw [if_neg (show ¬ (false = true) by decide)] at H
   obtain rfl := Option.some.inj H
   exact impl_BufferAt.e0
  subst c7
  rw [if_pos rfl] at H
  obtain ⟨t476, A8, H⟩ := bi_ H
  by_cases c9 : t476 = true
  ·subst c9
   rw [if_pos rfl] at H
   obtain rfl := Option.some.inj H
   exact impl_BufferAt.e0
  replace c9 := Bool.eq_false_iff.mpr c9
  subst c9
  rw [if_neg (show ¬ (false = true) by decide)] at H
  obtain rfl := Option.some.inj H
  exact impl_BufferAt.e0
 ·replace c5 := Bool.eq_false_iff.mpr c5
  subst c5
  rw [if_neg (show ¬ (false = true) by decide)] at H
  obtain rfl := Option.some.inj H
  exact impl_BufferAt.e0
def impl_live.f (k : Nat) (a0_0 : Int) (a0_1 : Int) (l0_2 : List Int) (a1 : Int) : Option (Bool) := (impl_leads.f a0_0 a0_1 a1).bind fun t478 => (if t478 = true then ((slices_Contains_int_int.f k l0_2 a1).bind fun t479 => (some (!t479))) else (some false))
theorem impl_live.e0 {P : Prop} (h : P := by
 go_enter Try.func72, Try.ntmps72
 go_wp2_with (first | ((with_reducible refine gate_dst (N := 2) rfl ?_); refine bx_ 2 #[.int .i64 a0_0, .int .i64 a0_1, .slice A0_2 l0_2.length c0_2] 28 ?_; intro gb477 hg w_0 hbox hb; have BK477 := am (hbox); have GW477 := gw_ hg HB; replace HB := h9_ HB hb; clear hb hbox hg; obtain ⟨hcz_0, hcz_1, hcz_2, hfz_0, hfz_1, hfz_2⟩ := cz3_ BK477.out) | ((with_reducible refine gate_callee (f := 54) rfl ?_); refine gm_ (some 8) Try.func54 #[.agg #[.int .i64 a0_0, .int .i64 a0_1], .int .i64 a1] rfl ?_; (with_reducible refine (impl_leads.calls a0_0 a0_1 a1 _ _ A3.out).mono ?_); rintro e w_0 ⟨rfl, hb⟩; refine ⟨_, rfl, ?_⟩; replace BK477 := kb_ BK477 hb; replace HB := h9_ HB hb; (try clear hb); obtain ⟨hcz_0, hcz_1, hcz_2, hfz_0, hfz_1, hfz_2⟩ := cz3_ BK477.out) | (go_at_call 55; (with_reducible refine (slices_Contains_int_int.calls k _ _ l0_2 a1 t479 _ ?side1 HC0_2.out A5.out).mono ?_); (case side1 => exact cb_ HR0_2.out HB.out); rintro e w' ⟨rfl, ⟨nd, rfl⟩⟩))
 go_ret
 exact ⟨fin_, bb_ HB.out⟩) : P := h
theorem impl_live.calls (k : Nat) (a0_0 : Int) (a0_1 : Int) (A0_2 : Option Addr) (c0_2 : Nat) (l0_2 : List Int) (a1 : Int) (r : Bool) (w : World) (hr0_2 : Kd.C (Kd.int .i64) w A0_2 l0_2.length l0_2) (hc0_2 : l0_2.length ≤ c0_2) (h : impl_live.f k a0_0 a0_1 l0_2 a1 = some r) :
  Calls Try.prog 72 #[.agg #[.int .i64 a0_0, .int .i64 a0_1, .slice A0_2 l0_2.length c0_2], .int .i64 a1] w fun e w' => e = .returned (.bool r) ∧ Below w.heap.size w w' := by
 have hu28 := Try.underlying28
 have hu25 := Try.underlying25
 have HR0_2 := am hr0_2
 have HC0_2 := am hc0_2
 clear hr0_2 hc0_2
 have HB := am (Below.refl w.heap.size w)
 have H : ((impl_leads.f a0_0 a0_1 a1).bind fun t478 => (if t478 = true then ((slices_Contains_int_int.f k l0_2 a1).bind fun t479 => (some (!t479))) else (some false))) = some r := h
 clear h
 obtain ⟨t478, A3, H⟩ := bi_ H
 by_cases c4 : t478 = true
 ·subst c4
  rw [if_pos rfl] at H
  obtain ⟨t479, A5, H⟩ := bi_ H
  obtain rfl := Option.some.inj H
  exact impl_live.e0
 ·replace c4 := Bool.eq_false_iff.mpr c4
  subst c4
  rw [if_neg (show ¬ (false = true) by decide)] at H
  obtain rfl := Option.some.inj H
  exact impl_live.e0
def impl_Opposite.f (a0 : Int) : Option (Int) := if a0 = 4 then (some 4) else ((impl_inside.f a0 0 3).bind fun t480 => (if t480 = true then (some (Int.tmod (wrap64 (a0 + 2)) 4)) else (some (-1))))
theorem impl_Opposite.e0 {P : Prop} (h : P := by
 go_enter Try.func74, Try.ntmps74
 go_wp2_with (first | ((with_reducible refine gate_callee (f := 22) rfl ?_); refine gm_ (some 8) Try.func22 #[.int .i64 a0, .int .i64 0, .int .i64 3] rfl ?_; (with_reducible refine (impl_inside.calls a0 0 3 _ _ A3.out).mono ?_); rintro e w' ⟨rfl, ⟨nd, rfl⟩⟩; refine ⟨_, rfl, ?_⟩))
 go_ret
 exact ⟨by first | rfl | (simp; done) | (simp [*]; done), by repeat (first | exact Drawn0.refl _ | apply Drawn0.step)⟩) : P := h
theorem impl_Opposite.calls (a0 : Int) (r : Int) (w : World) (h : impl_Opposite.f a0 = some r) :
  Calls Try.prog 74 #[.int .i64 a0] w fun e w' => e = .returned (.int .i64 r) ∧ Drawn0 w w' := by
 have H : (if a0 = 4 then (some 4) else ((impl_inside.f a0 0 3).bind fun t480 => (if t480 = true then (some (Int.tmod (wrap64 (a0 + 2)) 4)) else (some (-1))))) = some r := h
 clear h
 by_cases c2 : a0 = 4
 ·rw [if_pos c2] at H
  have c2b0 : (a0 == 4) = true := beq_iff_eq.mpr c2
  have c2b1 : (a0 != 4) = false := bne_eq_false_iff_eq.mpr c2
  clear c2
  obtain rfl := Option.some.inj H
  exact impl_Opposite.e0
 ·rw [if_neg c2] at H
  have c2b0 : (a0 == 4) = false := beq_eq_false_iff_ne.mpr c2
  have c2b1 : (a0 != 4) = true := bne_iff_ne.mpr c2
  obtain ⟨t480, A3, H⟩ := bi_ H
  by_cases c4 : t480 = true
  ·subst c4
   rw [if_pos rfl] at H
   obtain rfl := Option.some.inj H
   exact impl_Opposite.e0
  ·replace c4 := Bool.eq_false_iff.mpr c4
   subst c4
   rw [if_neg (show ¬ (false = true) by decide)] at H
   obtain rfl := Option.some.inj H
   exact impl_Opposite.e0
def NetAt (W : World) (g : Nat) (s0 : Int) (s1 : Int) (s2 : List Int) (s3 : List Int) (s4 : List Int) (s5 : List (List S72)) (s6 : List Int) (s7 : List Int) (s8 : List (List S72)) (s9 : List (List S72)) (s10 : Int) : Prop := ∃ A2 c2 A3 c3 A4 c4 A5 c5 A6 c6 A7 c7 A8 c8 A9 c9, W.heap[g]? = some (.cells #[.int .i64 s0, .int .i64 s1, .slice A2 s2.length c2, .slice A3 s3.length c3, .slice A4 s4.length c4, .slice A5 s5.length c5, .slice A6 s6.length c6, .slice A7 s7.length c7, .slice A8 s8.length c8, .slice A9 s9.length c9, .int .i64 s10] 35 (0, 0)) ∧ (Kd.C (Kd.int .i64) W A2 s2.length s2 ∧ s2.length ≤ c2) ∧ (Kd.C (Kd.int .i64) W A3 s3.length s3 ∧ s3.length ≤ c3) ∧ (Kd.C (Kd.int .i64) W A4 s4.length s4 ∧ s4.length ≤ c4) ∧ (Kd.C (Kd.slice 72 k72) W A5 s5.length s5 ∧ s5.length ≤ c5) ∧ (Kd.C (Kd.int .i64) W A6 s6.length s6 ∧ s6.length ≤ c6) ∧ (Kd.C (Kd.int .i64) W A7 s7.length s7 ∧ s7.length ≤ c7) ∧ (Kd.C (Kd.slice 72 k72) W A8 s8.length s8 ∧ s8.length ≤ c8) ∧ (Kd.C (Kd.slice 72 k72) W A9 s9.length s9 ∧ s9.length ≤ c9)
theorem NetAt.below {W W1 : World} {g : Nat} {s0 : Int} {s1 : Int} {s2 : List Int} {s3 : List Int} {s4 : List Int} {s5 : List (List S72)} {s6 : List Int} {s7 : List Int} {s8 : List (List S72)} {s9 : List (List S72)} {s10 : Int} (h : NetAt W g s0 s1 s2 s3 s4 s5 s6 s7 s8 s9 s10) (b : Below W.heap.size W W1) : NetAt W1 g s0 s1 s2 s3 s4 s5 s6 s7 s8 s9 s10 := by
 obtain ⟨A2, c2, A3, c3, A4, c4, A5, c5, A6, c6, A7, c7, A8, c8, A9, c9, hb, ⟨h2, k2⟩, ⟨h3, k3⟩, ⟨h4, k4⟩, ⟨h5, k5⟩, ⟨h6, k6⟩, ⟨h7, k7⟩, ⟨h8, k8⟩, ⟨h9, k9⟩⟩ := h
 exact ⟨A2, c2, A3, c3, A4, c4, A5, c5, A6, c6, A7, c7, A8, c8, A9, c9, blk_below hb b, ⟨Kd.C_below h2 b, k2⟩, ⟨Kd.C_below h3 b, k3⟩, ⟨Kd.C_below h4 b, k4⟩, ⟨Kd.C_below h5 b, k5⟩, ⟨Kd.C_below h6 b, k6⟩, ⟨Kd.C_below h7 b, k7⟩, ⟨Kd.C_below h8 b, k8⟩, ⟨Kd.C_below h9 b, k9⟩⟩
def impl_Net_behind.f (k : Nat) (s0 s1 : Int) (s2 : List Int) (a1 a2 a3 : Int) : Option Int := if a2 = 4 then (some (-1)) else ((impl_live.f k s0 s1 s2 (wrap64 ((wrap64 (4 * a1)) + a2))).bind fun b => (if b = true then ((impl_endOf.f s0 s1 s2 (wrap64 ((wrap64 (4 * a1)) + a2))).bind fun e => ((impl_Opposite.f a2).bind fun o => (impl_BufferAt.f e o a3))) else (some (-1))))
theorem impl_Net_behind.e0 {P : Prop} (h : P := by
 go_enter Try.func46, Try.ntmps46
 go_wp2_with (first | (go_at_call 72; (with_reducible refine (impl_live.calls k s0 s1 _ _ s2 _ _ _ ?side1 HC2.out A1.out).mono ?_); (case side1 => exact cb_ HR2.out HB.out); rintro e w_0 ⟨rfl, hb⟩; replace BK := kb_ BK hb; replace HB := h9_ HB hb; (try clear hb); obtain ⟨z0, z1, z2, z3, z4, z5, z6, z7, z8, z9, z10, f0, f1, f2, f3, f4, f5, f6, f7, f8, f9, f10⟩ := cz11_ BK.out) | (go_at_call 73; (with_reducible refine (impl_endOf.calls s0 s1 _ _ s2 _ _ _ ?side1 HC2.out A2_.out).mono ?_); (case side1 => exact cb_ HR2.out HB.out); rintro e w_0 ⟨rfl, hb⟩; replace BK := kb_ BK hb; replace HB := h9_ HB hb; (try clear hb); obtain ⟨z0, z1, z2, z3, z4, z5, z6, z7, z8, z9, z10, f0, f1, f2, f3, f4, f5, f6, f7, f8, f9, f10⟩ := cz11_ BK.out) | (go_at_call 74; (with_reducible refine (impl_Opposite.calls _ _ _ A3_.out).mono ?_); rintro e w' ⟨rfl, ⟨nd, rfl⟩⟩) | (go_at_call 45; (with_reducible refine (impl_BufferAt.calls _ _ _ _ _ A4_.out).mono ?_); rintro e w' ⟨rfl, ⟨nd, rfl⟩⟩))
 go_ret
 exact ⟨fin_, bb_ HB.out⟩) : P := h
set_option maxHeartbeats 4000000 in
theorem impl_Net_behind.calls (k g : Nat) (s0 : Int) (s1 : Int) (s2 : List Int) (s3 : List Int) (s4 : List Int) (s5 : List (List S72)) (s6 : List Int) (s7 : List Int) (s8 : List (List S72)) (s9 : List (List S72)) (s10 : Int) (a1 a2 a3 r : Int) (w : World) (hN : NetAt w g s0 s1 s2 s3 s4 s5 s6 s7 s8 s9 s10) (h : impl_Net_behind.f k s0 s1 s2 a1 a2 a3 = some r) :
  Calls Try.prog 46 #[.pointer (some ⟨g, 0, none⟩), .int .i64 a1, .int .i64 a2, .int .i64 a3] w fun e w' => e = .returned (.int .i64 r) ∧ Below w.heap.size w w' := by
 obtain ⟨A2, c2, A3, c3, A4, c4, A5, c5, A6, c6, A7, c7, A8, c8, A9, c9, hb, ⟨h2, k2⟩, ⟨h3, k3⟩, ⟨h4, k4⟩, ⟨h5, k5⟩, ⟨h6, k6⟩, ⟨h7, k7⟩, ⟨h8, k8⟩, ⟨h9, k9⟩⟩ := hN
 have BK := am hb
 have HR2 := am h2
 have HC2 := am k2
 clear hb h2 k2 h3 k3 h4 k4 h5 k5 h6 k6 h7 k7 h8 k8 h9 k9
 have HB := am (Below.refl w.heap.size w)
 obtain ⟨z0, z1, z2, z3, z4, z5, z6, z7, z8, z9, z10, f0, f1, f2, f3, f4, f5, f6, f7, f8, f9, f10⟩ := cz11_ BK.out
 unfold impl_Net_behind.f at h
 by_cases c1 : a2 = 4
 ·rw [if_pos c1] at h
  obtain rfl := Option.some.inj h
  have c1b : (a2 == 4) = true := beq_iff_eq.mpr c1
  clear c1 h
  exact impl_Net_behind.e0
 ·rw [if_neg c1] at h
  have c1b : (a2 == 4) = false := beq_eq_false_iff_ne.mpr c1
  clear c1
  obtain ⟨b, A10, h⟩ := Option.bind_eq_some_iff.1 h
  have A1 := am A10
  clear A10
  cases b with
  | false =>
   have h1 : some (-1 : Int) = some r := h
   obtain rfl := Option.some.inj h1
   clear h h1
   exact impl_Net_behind.e0
  | true =>
   have h1 : ((impl_endOf.f s0 s1 s2 (wrap64 ((wrap64 (4 * a1)) + a2))).bind fun e => ((impl_Opposite.f a2).bind fun o => (impl_BufferAt.f e o a3))) = some r := h
   clear h
   obtain ⟨e0, A20, h⟩ := Option.bind_eq_some_iff.1 h1
   obtain ⟨o0, A30, h⟩ := Option.bind_eq_some_iff.1 h
   have A2_ := am A20
   have A3_ := am A30
   have A4_ := am h
   clear A20 A30 h h1
   exact impl_Net_behind.e0
def impl_Net_credit.f (k : Nat) (s0 s1 : Int) (s2 : List Int) (s5 : List (List S72)) (a1 a2 a3 : Int) : Option Int := (impl_Net_behind.f k s0 s1 s2 a1 a2 a3).bind fun at_ => (if at_ < 0 then (some (-1)) else (if at_ < (s5.length : Int) then (some (wrap64 (3 - ((rd_L4 s5 at_).length : Int)))) else none))
set_option maxHeartbeats 4000000 in
theorem impl_Net_credit.calls (k g : Nat) (s0 : Int) (s1 : Int) (s2 : List Int) (s3 : List Int) (s4 : List Int) (s5 : List (List S72)) (s6 : List Int) (s7 : List Int) (s8 : List (List S72)) (s9 : List (List S72)) (s10 : Int) (a1 a2 a3 : Int) (r : Int) (w : World) (hN : NetAt w g s0 s1 s2 s3 s4 s5 s6 s7 s8 s9 s10) (h : impl_Net_credit.f k s0 s1 s2 s5 a1 a2 a3 = some r) :
  Calls Try.prog 51 #[.pointer (some ⟨g, 0, none⟩), .int .i64 a1, .int .i64 a2, .int .i64 a3] w fun e w' => e = .returned (.int .i64 r) ∧ Below w.heap.size w w' := by
 have hNA := am hN
 obtain ⟨A2, c2, A3, c3, A4, c4, A5, c5, A6, c6, A7, c7, A8, c8, A9, c9, hb, ⟨h2, k2⟩, ⟨h3, k3⟩, ⟨h4, k4⟩, ⟨h5, k5⟩, ⟨h6, k6⟩, ⟨h7, k7⟩, ⟨h8, k8⟩, ⟨h9, k9⟩⟩ := hN
 have BK := am hb
 have HR5 := am h5
 have HC5 := am k5
 clear hb h2 k2 h3 k3 h4 k4 h5 k5 h6 k6 h7 k7 h8 k8 h9 k9
 have HB := am (Below.refl w.heap.size w)
 obtain ⟨z0, z1, z2, z3, z4, z5, z6, z7, z8, z9, z10, f0, f1, f2, f3, f4, f5, f6, f7, f8, f9, f10⟩ := cz11_ BK.out
 unfold impl_Net_credit.f at h
 obtain ⟨at_, A10, h⟩ := Option.bind_eq_some_iff.1 h
 have A1 := am A10
 clear A10
 by_cases c2 : at_ < 0
 ·rw [if_pos c2] at h
  obtain rfl := Option.some.inj h
  clear h
  have c2b : decide (at_ < 0) = true := decide_eq_true c2
  clear c2
  go_enter Try.func51, Try.ntmps51
  go_wp2_with (first | (go_at_call 46; (with_reducible refine (impl_Net_behind.calls k g s0 s1 s2 s3 s4 s5 s6 s7 s8 s9 s10 a1 a2 a3 _ _ ?side1 A1.out).mono ?_); (case side1 => exact hNA.out); rintro e w1 ⟨rfl, hb⟩; replace BK := kb_ BK hb; replace HB := h9_ HB hb; (try clear hb); obtain ⟨z0, z1, z2, z3, z4, z5, z6, z7, z8, z9, z10, f0, f1, f2, f3, f4, f5, f6, f7, f8, f9, f10⟩ := cz11_ BK.out))
  go_ret
  exact ⟨fin_, bb_ HB.out⟩
 ·rw [if_neg c2] at h
  by_cases c3 : at_ < (s5.length : Int)
  ·rw [if_pos c3] at h
   obtain rfl := Option.some.inj h
   clear h
   have c1 : 0 ≤ at_ := by omega
   obtain ⟨ad, AE, cE, eE, hxE, hlE, hiE⟩ := at_L4 HR5.out at_ c1 c3
   cases eE
   have hxA := am hxE
   clear hxE hlE hiE
   have c2b : decide (at_ < 0) = false := decide_eq_false c2
   have c1b : decide (0 ≤ at_) = true := decide_eq_true c1
   have c3b : decide (at_ < (s5.length : Int)) = true := decide_eq_true c3
   clear c2
   replace c1 := eq_true c1
   replace c3 := eq_true c3
   go_enter Try.func51, Try.ntmps51
   go_wp2_with (first | (go_at_call 46; (with_reducible refine (impl_Net_behind.calls k g s0 s1 s2 s3 s4 s5 s6 s7 s8 s9 s10 a1 a2 a3 _ _ ?side1 A1.out).mono ?_); (case side1 => exact hNA.out); rintro e w1 ⟨rfl, hb⟩; replace BK := kb_ BK hb; replace HB := h9_ HB hb; (try clear hb); obtain ⟨z0, z1, z2, z3, z4, z5, z6, z7, z8, z9, z10, f0, f1, f2, f3, f4, f5, f6, f7, f8, f9, f10⟩ := cz11_ BK.out; have hxE := (HB.out.cell (World.block_lt_of_cell? w _ hxA.out)).trans hxA.out))
   go_ret
   exact ⟨fin_, bb_ HB.out⟩
  ·rw [if_neg c3] at h
   exact absurd h (by simp)
theorem two_C (W : World) (e : TypeId) (u v : Int) : Kd.C (Kd.int .i64) (W.alloc (.cells #[.int .i64 u, .int .i64 v] e)) (some ⟨W.heap.size, 0, none⟩) 2 [u, v] := by
 refine ⟨rfl, by decide, fun _ => ⟨_, rfl, fun j p hj => ⟨[.int .i64 p], rfl, rfl, fun i x hi => ?_⟩⟩⟩
 have hi0 : i = 0 := by
  cases i with
  | zero => rfl
  | succ i => simp at hi
 subst hi0
 have hx : Value.int .i64 p = x := by simpa using hi
 subst hx
 have hb : (W.alloc (.cells #[.int .i64 u, .int .i64 v] e)).heap[W.heap.size]? = some (.cells #[.int .i64 u, .int .i64 v] e (0, 0)) := blk_new W _
 match j, hj with
 | 0, hj =>
  have : u = p := by simpa using hj
  subst this
  exact (blk_cell hb 0).trans rfl
 | 1, hj =>
  have : v = p := by simpa using hj
  subst this
  exact (blk_cell hb 1).trans rfl
 | j + 2, hj => simp at hj
def impl_Net_credits.l0 : Nat → Int → Int → List Int → List (List S72) → List Int → Int → Int → Option (List Int)
 | 0, _, _, _, _, _, _, _ => none
 | k + 1, s0, s1, s2, s5, acc, n, x => if x < n then ((impl_Net_credit.f k s0 s1 s2 s5 (wrap64 (Int.tdiv x 4)) (Int.tmod x 4) 0).bind fun u => ((impl_Net_credit.f k s0 s1 s2 s5 (wrap64 (Int.tdiv x 4)) (Int.tmod x 4) 1).bind fun v => (if acc.length < 8796093022208 then (impl_Net_credits.l0 k s0 s1 s2 s5 (acc ++ [u, v]) n (wrap64 (x + 1))) else none))) else (some acc)
def impl_Net_credits.f (k : Nat) (s0 s1 : Int) (s2 : List Int) (s5 s8 : List (List S72)) : Option (List Int) := impl_Net_credits.l0 k s0 s1 s2 s5 [] (wrap64 (4 * (s8.length : Int))) 0
set_option maxHeartbeats 4000000 in
theorem impl_Net_credits.calls (k g : Nat) (s0 : Int) (s1 : Int) (s2 : List Int) (s3 : List Int) (s4 : List Int) (s5 : List (List S72)) (s6 : List Int) (s7 : List Int) (s8 : List (List S72)) (s9 : List (List S72)) (s10 : Int) (r : List Int) (w : World) (hN : NetAt w g s0 s1 s2 s3 s4 s5 s6 s7 s8 s9 s10) (h : impl_Net_credits.f k s0 s1 s2 s5 s8 = some r) :
  Calls Try.prog 27 #[.pointer (some ⟨g, 0, none⟩)] w fun e w' => ∃ v0_ : Value, e = .returned v0_ ∧ Kd.R (Kd.int .i64) 3 w' w.heap.size (fun _ => True) v0_ r ∧ Below w.heap.size w w' := by
 have hNA := am hN
 obtain ⟨A2, c2, A3, c3, A4, c4, A5, c5, A6, c6, A7, c7, A8, c8, A9, c9, hb, ⟨h2, k2⟩, ⟨h3, k3⟩, ⟨h4, k4⟩, ⟨h5, k5⟩, ⟨h6, k6⟩, ⟨h7, k7⟩, ⟨h8, k8⟩, ⟨h9, k9⟩⟩ := hN
 have BK := am hb
 have HR8 := am h8
 have HC8 := am k8
 clear hb h2 k2 h3 k3 h4 k4 h5 k5 h6 k6 h7 k7 h8 k8 h9 k9
 have HB := am (Below.refl w.heap.size w)
 obtain ⟨z0, z1, z2, z3, z4, z5, z6, z7, z8, z9, z10, f0, f1, f2, f3, f4, f5, f6, f7, f8, f9, f10⟩ := cz11_ BK.out
 have H' := am h
 clear h
 go_enter Try.func27, Try.ntmps27
 go_wp2_with (first | ((with_reducible refine gate_dst (N := 5) rfl ?_); refine Kd.R_lit (Kd.int .i64) _ 3 ?hg (N := 5) ?hd (xs := ([] : List Int)) (inner := []) (ok := fun _ => True) (okp := fun _ => True) ?hr ?hp (fun _ hk => hk) trivial (Below.refl _ _) (Nat.le_refl _) (by simp) ?_; (case hd => rfl); (case hg => rfl); (case hr => first | (go_simp; done) | (go_simp; rfl)); (case hp => exact (Reps.none _ _)); intro v0 w1 ho hb hg_ hnew_; clear hg_ hnew_; have HO := am (Kd.R_lower ho (bz_ HB.out)); replace BK := kb_ BK hb; replace HB := h9_ HB hb; clear hb ho; obtain ⟨z0, z1, z2, z3, z4, z5, z6, z7, z8, z9, z10, f0, f1, f2, f3, f4, f5, f6, f7, f8, f9, f10⟩ := cz11_ BK.out))
 go_loopg [3, 12] k (fun kq v3 v12 w' => ∃ (acc : List Int) (x : Int), v12 = .int .i64 x ∧ Aside0 (impl_Net_credits.l0 kq s0 s1 s2 s5 acc (wrap64 (4 * (s8.length : Int))) x = some r) ∧ Aside0 (kq ≤ k) ∧ Aside0 (Kd.R (Kd.int .i64) 3 w' w.heap.size (fun _ => True) v3 acc) ∧ Aside0 (Below w.heap.size w w'))
 case atStart => exact ⟨[], 0, ef_, H', ⟨Nat.le_refl _⟩, ⟨ra_ HO.out⟩, ⟨bb_ HB.out⟩⟩
 clear H'
 (try clear HO)
 (try clear HB)
 obtain ⟨acc, x, rfl, HA, HK1, HO, HB⟩ := hrel
 obtain _ | k1 := gk
 ·exact absurd HA.out (by simp [impl_Net_credits.l0])
 have H := HA.out
 clear HA
 simp only [impl_Net_credits.l0] at H
 by_cases q1 : x < (wrap64 (4 * (s8.length : Int)))
 rotate_left
 ·rw [if_neg q1] at H
  have q1b : decide (x < (wrap64 (4 * (s8.length : Int)))) = false := decide_eq_false q1
  clear q1
  obtain rfl := Option.some.inj H
  clear H
  go_wp2
  go_ret
  exact ⟨_, fin_, ra_ HO.out, bb_ HB.out⟩
 rw [if_pos q1] at H
 have q1b : decide (x < (wrap64 (4 * (s8.length : Int)))) = true := decide_eq_true q1
 clear q1
 obtain ⟨u, A10, H⟩ := Option.bind_eq_some_iff.1 H
 obtain ⟨v, A20, H⟩ := Option.bind_eq_some_iff.1 H
 have A1 := am A10
 have A2_ := am A20
 clear A10 A20
 by_cases q2 : acc.length < 8796093022208
 rotate_left
 ·rw [if_neg q2] at H
  exact absurd H (by simp)
 rw [if_pos q2] at H
 have LM := am q2
 clear q2
 have H' := am H
 clear H
 go_wp2_with (first | (go_at_call 51; (with_reducible refine (impl_Net_credit.calls k1 g s0 s1 s2 s3 s4 s5 s6 s7 s8 s9 s10 _ _ _ _ _ ?side1 A1.out).mono ?_); (case side1 => exact hNA.out.below HB.out); rintro e w1 ⟨rfl, hb⟩; replace HO := am (Kd.R_below (ra_ HO.out) hb); replace HB := h9_ HB hb; (try clear hb)) | (go_at_call 51; (with_reducible refine (impl_Net_credit.calls k1 g s0 s1 s2 s3 s4 s5 s6 s7 s8 s9 s10 _ _ _ _ _ ?side1 A2_.out).mono ?_); (case side1 => exact hNA.out.below HB.out); rintro e w1 ⟨rfl, hb⟩; replace HO := am (Kd.R_below (ra_ HO.out) hb); replace HB := h9_ HB hb; (try clear hb)) | ((with_reducible refine gate_builtin (b := .append) (xs := #[.tmp 15, .tmp 28]) rfl ?_); at_builtin; refine Kd.R_append_rows (Kd.int .i64) (Rr := (Kd.int .i64).K _) (w0 := w) w.heap.size rfl (.tmp 15) (.tmp 28) 26 3 (.int .i64 0) 8 rfl Try.underlying26 info3 rfl (by decide) (by omega) _ acc [u, v] _ 2 2 (fun _ => True) (fun _ => False) rfl rfl ?aO (two_C _ _ u v) (fun _ _ h_ => h_) (fun _ h_ => h_.elim) (fun _ _ => trivial) ?aB ?aS ?aL ?_; (case aO => exact (ra_ HO.out)); (case aB => exact bb_ HB.out); (case aS => exact bz_ HB.out); (case aL => have := LM.out; omega); intro v1 w2 ho hb hg hat; replace HO := am ho; replace HB := am hb; clear ho hb hg hat))
 go_roundg k1
 case measure => have := HK1.out; omega
 case rel => exact ⟨acc ++ [u, v], wrap64 (x + 1), ef_, H', ⟨by have := HK1.out; omega⟩, ⟨ra_ HO.out⟩, ⟨bb_ HB.out⟩⟩
def impl_TotalCredit.l0 : Nat → List Int → Int → Int → Option Int
 | 0, _, _, _ => none
 | k + 1, l, s, x => if x < (l.length : Int) then (if 0 ≤ x then (impl_TotalCredit.l0 k l (wrap64 (s + mx (rd l x) 0)) (wrap64 (x + 1))) else none) else (some s)
def impl_TotalCredit.f (k : Nat) (a0_0 : Int) (a0_1 : Int) (l0_2 : List Int) (l0_3 : List Int) (l0_4 : List Int) (l0_5 : List (List S72)) (l0_6 : List Int) (l0_7 : List Int) (l0_8 : List (List S72)) (l0_9 : List (List S72)) (a0_10 : Int) : Option Int := (impl_NetOk.f k a0_0 a0_1 l0_2 l0_3 l0_4 l0_5 l0_6 l0_7 l0_8 l0_9 a0_10).bind fun b1 => (if b1 = true then ((impl_Net_credits.f k a0_0 a0_1 l0_2 l0_5 l0_8).bind fun l => (impl_TotalCredit.l0 k l 0 0)) else (some (-1)))
set_option maxHeartbeats 4000000 in
theorem impl_TotalCredit.calls (k : Nat) (a0_0 : Int) (a0_1 : Int) (A0_2 : Option Addr) (c0_2 : Nat) (l0_2 : List Int) (A0_3 : Option Addr) (c0_3 : Nat) (l0_3 : List Int) (A0_4 : Option Addr) (c0_4 : Nat) (l0_4 : List Int) (A0_5 : Option Addr) (c0_5 : Nat) (l0_5 : List (List S72)) (A0_6 : Option Addr) (c0_6 : Nat) (l0_6 : List Int) (A0_7 : Option Addr) (c0_7 : Nat) (l0_7 : List Int) (A0_8 : Option Addr) (c0_8 : Nat) (l0_8 : List (List S72)) (A0_9 : Option Addr) (c0_9 : Nat) (l0_9 : List (List S72)) (a0_10 : Int)  (r : Int) (w : World) (hr0_2 : Kd.C (Kd.int .i64) w A0_2 l0_2.length l0_2) (hc0_2 : l0_2.length ≤ c0_2) (hr0_3 : Kd.C (Kd.int .i64) w A0_3 l0_3.length l0_3) (hc0_3 : l0_3.length ≤ c0_3) (hr0_4 : Kd.C (Kd.int .i64) w A0_4 l0_4.length l0_4) (hc0_4 : l0_4.length ≤ c0_4) (hr0_5 : Kd.C (Kd.slice 72 k72) w A0_5 l0_5.length l0_5) (hc0_5 : l0_5.length ≤ c0_5) (hr0_6 : Kd.C (Kd.int .i64) w A0_6 l0_6.length l0_6) (hc0_6 : l0_6.length ≤ c0_6) (hr0_7 : Kd.C (Kd.int .i64) w A0_7 l0_7.length l0_7) (hc0_7 : l0_7.length ≤ c0_7) (hr0_8 : Kd.C (Kd.slice 72 k72) w A0_8 l0_8.length l0_8) (hc0_8 : l0_8.length ≤ c0_8) (hr0_9 : Kd.C (Kd.slice 72 k72) w A0_9 l0_9.length l0_9) (hc0_9 : l0_9.length ≤ c0_9) (h : impl_TotalCredit.f k a0_0 a0_1 l0_2 l0_3 l0_4 l0_5 l0_6 l0_7 l0_8 l0_9 a0_10  = some r) :
  Calls Try.prog 13 #[.agg #[.int .i64 a0_0, .int .i64 a0_1, .slice A0_2 l0_2.length c0_2, .slice A0_3 l0_3.length c0_3, .slice A0_4 l0_4.length c0_4, .slice A0_5 l0_5.length c0_5, .slice A0_6 l0_6.length c0_6, .slice A0_7 l0_7.length c0_7, .slice A0_8 l0_8.length c0_8, .slice A0_9 l0_9.length c0_9, .int .i64 a0_10]] w fun e w' => e = .returned (.int .i64 r) ∧ Below w.heap.size w w' := by
 obtain ⟨HR0_2, HC0_2, HR0_3, HC0_3, HR0_4, HC0_4, HR0_5, HC0_5, HR0_6, HC0_6, HR0_7, HC0_7, HR0_8, HC0_8, HR0_9, HC0_9⟩ := a16_ hr0_2 hc0_2 hr0_3 hc0_3 hr0_4 hc0_4 hr0_5 hc0_5 hr0_6 hc0_6 hr0_7 hc0_7 hr0_8 hc0_8 hr0_9 hc0_9; clear hr0_2 hc0_2 hr0_3 hc0_3 hr0_4 hc0_4 hr0_5 hc0_5 hr0_6 hc0_6 hr0_7 hc0_7 hr0_8 hc0_8 hr0_9 hc0_9
 have HB := am (Below.refl w.heap.size w)
 unfold impl_TotalCredit.f at h
 obtain ⟨b1, A10, h⟩ := Option.bind_eq_some_iff.1 h
 have A1 := am A10
 clear A10
 cases b1 with
 | false =>
  have h1 : some (-1 : Int) = some r := h
  obtain rfl := Option.some.inj h1
  clear h h1
  go_enter Try.func13, Try.ntmps13
  go_wp2_with (first | ((with_reducible refine gate_dst (N := 1) rfl ?_); refine bx_ 1 #[.int .i64 a0_0, .int .i64 a0_1, .slice A0_2 l0_2.length c0_2, .slice A0_3 l0_3.length c0_3, .slice A0_4 l0_4.length c0_4, .slice A0_5 l0_5.length c0_5, .slice A0_6 l0_6.length c0_6, .slice A0_7 l0_7.length c0_7, .slice A0_8 l0_8.length c0_8, .slice A0_9 l0_9.length c0_9, .int .i64 a0_10] 35 ?_; intro gb hg w1 hbox hb; have BK := am hbox; replace HB := h9_ HB hb; clear hb hbox hg; obtain ⟨z0, z1, z2, z3, z4, z5, z6, z7, z8, z9, z10, f0, f1, f2, f3, f4, f5, f6, f7, f8, f9, f10⟩ := cz11_ BK.out) | (go_at_call 26; (with_reducible refine (impl_NetOk.calls k a0_0 a0_1 _ _ l0_2 _ _ l0_3 _ _ l0_4 _ _ l0_5 _ _ l0_6 _ _ l0_7 _ _ l0_8 _ _ l0_9 a0_10  _ _ ?side1 HC0_2.out ?side2 HC0_3.out ?side3 HC0_4.out ?side4 HC0_5.out ?side5 HC0_6.out ?side6 HC0_7.out ?side7 HC0_8.out ?side8 HC0_9.out A1.out).mono ?_); (case side1 => exact cb_ HR0_2.out HB.out); (case side2 => exact cb_ HR0_3.out HB.out); (case side3 => exact cb_ HR0_4.out HB.out); (case side4 => exact cb_ HR0_5.out HB.out); (case side5 => exact cb_ HR0_6.out HB.out); (case side6 => exact cb_ HR0_7.out HB.out); (case side7 => exact cb_ HR0_8.out HB.out); (case side8 => exact cb_ HR0_9.out HB.out); rintro e w1 ⟨rfl, hb⟩; replace BK := kb_ BK hb; replace HB := h9_ HB hb; (try clear hb); obtain ⟨z0, z1, z2, z3, z4, z5, z6, z7, z8, z9, z10, f0, f1, f2, f3, f4, f5, f6, f7, f8, f9, f10⟩ := cz11_ BK.out))
  go_ret
  exact ⟨fin_, bb_ HB.out⟩
 | true =>
  rw [if_pos rfl] at h
  obtain ⟨l, A20, h⟩ := Option.bind_eq_some_iff.1 h
  have A2_ := am A20
  have H' := am h
  clear A20 h
  go_enter Try.func13, Try.ntmps13
  go_wp2_with (first | ((with_reducible refine gate_dst (N := 1) rfl ?_); refine bx_ 1 #[.int .i64 a0_0, .int .i64 a0_1, .slice A0_2 l0_2.length c0_2, .slice A0_3 l0_3.length c0_3, .slice A0_4 l0_4.length c0_4, .slice A0_5 l0_5.length c0_5, .slice A0_6 l0_6.length c0_6, .slice A0_7 l0_7.length c0_7, .slice A0_8 l0_8.length c0_8, .slice A0_9 l0_9.length c0_9, .int .i64 a0_10] 35 ?_; intro gb hg w1 hbox hb; have BK := am hbox; replace HB := h9_ HB hb; clear hb hbox hg; obtain ⟨z0, z1, z2, z3, z4, z5, z6, z7, z8, z9, z10, f0, f1, f2, f3, f4, f5, f6, f7, f8, f9, f10⟩ := cz11_ BK.out) | (go_at_call 26; (with_reducible refine (impl_NetOk.calls k a0_0 a0_1 _ _ l0_2 _ _ l0_3 _ _ l0_4 _ _ l0_5 _ _ l0_6 _ _ l0_7 _ _ l0_8 _ _ l0_9 a0_10  _ _ ?side1 HC0_2.out ?side2 HC0_3.out ?side3 HC0_4.out ?side4 HC0_5.out ?side5 HC0_6.out ?side6 HC0_7.out ?side7 HC0_8.out ?side8 HC0_9.out A1.out).mono ?_); (case side1 => exact cb_ HR0_2.out HB.out); (case side2 => exact cb_ HR0_3.out HB.out); (case side3 => exact cb_ HR0_4.out HB.out); (case side4 => exact cb_ HR0_5.out HB.out); (case side5 => exact cb_ HR0_6.out HB.out); (case side6 => exact cb_ HR0_7.out HB.out); (case side7 => exact cb_ HR0_8.out HB.out); (case side8 => exact cb_ HR0_9.out HB.out); rintro e w1 ⟨rfl, hb⟩; replace BK := kb_ BK hb; replace HB := h9_ HB hb; (try clear hb); obtain ⟨z0, z1, z2, z3, z4, z5, z6, z7, z8, z9, z10, f0, f1, f2, f3, f4, f5, f6, f7, f8, f9, f10⟩ := cz11_ BK.out) | (go_at_call 27; (with_reducible refine (impl_Net_credits.calls k gb a0_0 a0_1 l0_2 l0_3 l0_4 l0_5 l0_6 l0_7 l0_8 l0_9 a0_10 _ _ ?side1 A2_.out).mono ?_); (case side1 => exact ⟨A0_2, c0_2, A0_3, c0_3, A0_4, c0_4, A0_5, c0_5, A0_6, c0_6, A0_7, c0_7, A0_8, c0_8, A0_9, c0_9, bq_ BK.out, ⟨cb_ HR0_2.out HB.out, HC0_2.out⟩, ⟨cb_ HR0_3.out HB.out, HC0_3.out⟩, ⟨cb_ HR0_4.out HB.out, HC0_4.out⟩, ⟨cb_ HR0_5.out HB.out, HC0_5.out⟩, ⟨cb_ HR0_6.out HB.out, HC0_6.out⟩, ⟨cb_ HR0_7.out HB.out, HC0_7.out⟩, ⟨cb_ HR0_8.out HB.out, HC0_8.out⟩, ⟨cb_ HR0_9.out HB.out, HC0_9.out⟩⟩); rintro e wc ⟨vc, rfl, ho, hb⟩; have HO := am ho; replace HB := h9_ HB hb; clear ho hb; obtain ⟨Ac, cc, ec⟩ := Kd.R_slice HO.out; subst ec))
  go_loopg [3, 11] k (fun kq v3 v11 w' => ∃ (s x : Int), v3 = .int .i64 s ∧ v11 = .int .i64 x ∧ Aside0 (impl_TotalCredit.l0 kq l s x = some r) ∧ Aside0 (kq ≤ k) ∧ w' = wc)
  case atStart => exact ⟨0, 0, ef_, ef_, H', ⟨Nat.le_refl _⟩, rfl⟩
  clear H'
  obtain ⟨s, x, rfl, rfl, HA, HK1, rfl⟩ := hrel
  obtain _ | k1 := gk
  ·exact absurd HA.out (by simp [impl_TotalCredit.l0])
  have H := HA.out
  clear HA
  simp only [impl_TotalCredit.l0] at H
  by_cases q1 : x < (l.length : Int)
  rotate_left
  ·rw [if_neg q1] at H
   have q1b : decide (x < (l.length : Int)) = false := decide_eq_false q1
   clear q1
   obtain rfl := Option.some.inj H
   clear H
   go_wp2
   go_ret
   exact ⟨fin_, bb_ HB.out⟩
  rw [if_pos q1] at H
  by_cases q2 : 0 ≤ x
  rotate_left
  ·rw [if_neg q2] at H
   exact absurd H (by simp)
  rw [if_pos q2] at H
  obtain ⟨ad, ea, hx⟩ := Kd.at_int (Kd.R_reads' HO.out).2.2 x q2 q1
  cases ea
  have q1b : decide (x < (l.length : Int)) = true := decide_eq_true q1
  have q2b : decide (0 ≤ x) = true := decide_eq_true q2
  replace q1 := eq_true q1
  replace q2 := eq_true q2
  by_cases q3 : rd l x < 0
  ·have hm : mx (rd l x) 0 = 0 := if_pos q3
   rw [hm] at H
   have q3b : (rd l x < 0) = True := eq_true q3
   clear q3 hm
   have H' := am H
   clear H
   go_wp2
   go_roundg k1
   case measure => have := HK1.out; omega
   case rel => exact ⟨(wrap64 (s + 0)), wrap64 (x + 1), ef_, ef_, H', ⟨by have := HK1.out; omega⟩, rfl⟩
  have hm : mx (rd l x) 0 = rd l x := if_neg q3
  rw [hm] at H
  have q3b : (rd l x < 0) = False := eq_false q3
  clear q3 hm
  have H' := am H
  clear H
  go_wp2
  go_roundg k1
  case measure => have := HK1.out; omega
  case rel => exact ⟨(wrap64 (s + rd l x)), wrap64 (x + 1), ef_, ef_, H', ⟨by have := HK1.out; omega⟩, rfl⟩
def impl_Channels.l0 : Nat → List Int → Int → Int → Int → Int → List Int → Option (List Int)
 | 0, _, _, _, _, _, _ => none
 | k + 1, x3, x9, x10, x482000, x482001, x482002 => if x10 < x9 then ((impl_HasChannel.f k x482000 x482001 x482002 x10).bind fun t486 => (if t486 = true then (if x3.length < 17592186044416 then (impl_Channels.l0 k (x3 ++ [x10]) x9 (wrap64 (x10 + 1)) x482000 x482001 x482002) else (none)) else (impl_Channels.l0 k x3 x9 (wrap64 (x10 + 1)) x482000 x482001 x482002))) else (some x3)
def impl_Channels.f (k : Nat) (a0_0 : Int) (a0_1 : Int) (l0_2 : List Int) : Option (List Int) := (impl_NodeCount.f a0_0 a0_1).bind fun t485 => (impl_Channels.l0 k (([] : List Int)) (wrap64 (4 * t485)) 0 a0_0 a0_1 l0_2)
theorem impl_Channels.calls (k : Nat) (a0_0 : Int) (a0_1 : Int) (A0_2 : Option Addr) (c0_2 : Nat) (l0_2 : List Int) (r : List Int) (w : World) (hr0_2 : Kd.C (Kd.int .i64) w A0_2 l0_2.length l0_2) (hc0_2 : l0_2.length ≤ c0_2) (h : impl_Channels.f k a0_0 a0_1 l0_2 = some r) :
  Calls Try.prog 14 #[.agg #[.int .i64 a0_0, .int .i64 a0_1, .slice A0_2 l0_2.length c0_2]] w fun e w' => ∃ v0_ : Value, e = .returned (v0_) ∧ Kd.R (Kd.int .i64) 3 w' w.heap.size (fun _ => True) v0_ r ∧ Below w.heap.size w w' := by
 have hu28 := Try.underlying28
 have hu25 := Try.underlying25
 have HR0_2 := am hr0_2
 have HC0_2 := am hc0_2
 clear hr0_2 hc0_2
 have HB := am (Below.refl w.heap.size w)
 have H : ((impl_NodeCount.f a0_0 a0_1).bind fun t485 => (impl_Channels.l0 k (([] : List Int)) (wrap64 (4 * t485)) 0 a0_0 a0_1 l0_2)) = some r := h
 clear h
 obtain ⟨y482, hy482⟩ : ∃ y_ : List Int, y_ = (([] : List Int)) := ⟨_, rfl⟩
 replace H : ((impl_NodeCount.f a0_0 a0_1).bind fun t485 => (impl_Channels.l0 k y482 (wrap64 (4 * t485)) 0 a0_0 a0_1 l0_2)) = some r := ry_ hy482 H
 have Ny482 := am hy482
 clear hy482
 obtain ⟨t485, A2, H⟩ := bi_ H
 have H' := am H
 clear H
 go_enter Try.func14, Try.ntmps14
 go_wp2_with (first | ((with_reducible refine gate_dst (N := 1) rfl ?_); refine bx_ 1 #[.int .i64 a0_0, .int .i64 a0_1, .slice A0_2 l0_2.length c0_2] 28 ?_; intro gb481 hg w3 hbox hb; have BK481 := am (hbox); have GW481 := gw_ hg HB; replace HB := h9_ HB hb; clear hb hbox hg) | ((with_reducible refine gate_dst (N := 5) rfl ?_); refine Kd.R_lit (Kd.int .i64) _ 3 ?hg (N := 5) ?hd (xs := ([] : List Int)) (inner := []) (ok := fun _ => True) (okp := fun _ => True) ?hr ?hp (fun _ hk => hk) trivial (Below.refl _ _) (Nat.le_refl _) (by simp) ?_; (case hd => rfl); (case hg => rfl); (case hr => first | (go_simp; done) | (go_simp; rfl)); (case hp => exact (Reps.none _ _)); intro v483 w4 ho5 hb hg_ hnew_; clear hg_ hnew_; (first | rw [← Ny482.out] at ho5 | (simp only [Int.reduceToNat] at ho5; rw [← Ny482.out] at ho5)); have HO484 := am (Kd.R_lower ho5 (bz_ HB.out)); replace BK481 := kb_ BK481 hb; replace HB := h9_ HB hb; clear hb ho5; obtain ⟨hcz6_0, hcz6_1, hcz6_2, hfz6_0, hfz6_1, hfz6_2⟩ := cz3_ BK481.out) | ((with_reducible refine gate_callee (f := 28) rfl ?_); refine gm_ (some 8) Try.func28 #[.agg #[.int .i64 a0_0, .int .i64 a0_1]] rfl ?_; (with_reducible refine (impl_NodeCount.calls a0_0 a0_1 t485 _ A2.out).mono ?_); rintro e w7 ⟨rfl, hb⟩; refine ⟨_, rfl, ?_⟩; replace HO484 := rb_ HO484 hb; replace BK481 := kb_ BK481 hb; replace HB := h9_ HB hb; (try clear hb)))
 go_loopg [3, 10] k (fun kq v3 v10 w' => ∃ (x3_1 : List Int) (x10_1 : Int), v10 = .int .i64 x10_1 ∧ Aside0 (impl_Channels.l0 kq x3_1 (wrap64 (4 * t485)) x10_1 a0_0 a0_1 l0_2 = some r) ∧ Aside0 (kq ≤ k) ∧ Aside0 (Kd.R (Kd.int .i64) 3 w' w.heap.size (fun _ => True) v3 x3_1) ∧ Aside0 (w'.heap[gb481]? = some (.cells #[.int .i64 a0_0, .int .i64 a0_1, (.slice A0_2 l0_2.length c0_2)] 28 (0, 0))) ∧ Aside0 (Below w.heap.size w w'))
 case atStart => exact ⟨(y482), (0), ef_, H', ⟨Nat.le_refl _⟩, ⟨ra_ HO484.out⟩, ⟨bq_ BK481.out⟩, ⟨bb_ HB.out⟩⟩
 clear H'
 try clear hcz6_0 hcz6_1 hcz6_2 hfz6_0 hfz6_1 hfz6_2
 obtain ⟨x3_1, x10_1, rfl, HA, HK1, HO_3, BK481, HB⟩ := hrel
 obtain _ | k1 := gk
 ·exact absurd HA.out (by simp [impl_Channels.l0])
 have H := HA.out
 clear HA
 simp only [impl_Channels.l0] at H
 by_cases c8 : x10_1 < (wrap64 (4 * t485))
 rotate_left
 ·rw [if_neg c8] at H
  have c8b0 : decide (x10_1 < (wrap64 (4 * t485))) = false := decide_eq_false c8
  clear c8
  obtain rfl := Option.some.inj H
  go_wp2
  go_ret
  exact ⟨_, fin_, ra_ HO_3.out, bb_ HB.out⟩
 rw [if_pos c8] at H
 have c8b0 : decide (x10_1 < (wrap64 (4 * t485))) = true := decide_eq_true c8
 clear c8
 obtain ⟨t486, A9, H⟩ := bi_ H
 by_cases c10 : t486 = true
 rotate_left
 ·replace c10 := Bool.eq_false_iff.mpr c10
  subst c10
  rw [if_neg (show ¬ (false = true) by decide)] at H
  have H' := am H
  clear H
  obtain ⟨hcz15_0, hcz15_1, hcz15_2, hfz15_0, hfz15_1, hfz15_2⟩ := cz3_ BK481.out
  go_wp2_with (first | ((with_reducible refine gate_callee (f := 29) rfl ?_); refine gm_ (some 15) Try.func29 #[.agg #[.int .i64 a0_0, .int .i64 a0_1, .slice A0_2 l0_2.length c0_2], .int .i64 x10_1] rfl ?_; (with_reducible refine (impl_HasChannel.calls k1 a0_0 a0_1 _ _ l0_2 x10_1 false _ ?side1 HC0_2.out A9.out).mono ?_); (case side1 => exact cb_ HR0_2.out HB.out); rintro e w16 ⟨rfl, hb⟩; refine ⟨_, rfl, ?_⟩; replace HO_3 := rb_ HO_3 hb; replace BK481 := kb_ BK481 hb; replace HB := h9_ HB hb; (try clear hb)))
  go_roundg k1
  case measure => have := HK1.out; omega
  case rel => exact ⟨(x3_1), (wrap64 (x10_1 + 1)), ef_, H', ⟨by have := HK1.out; omega⟩, ⟨ra_ HO_3.out⟩, ⟨bq_ BK481.out⟩, ⟨bb_ HB.out⟩⟩
 subst c10
 rw [if_pos rfl] at H
 by_cases c11 : x3_1.length < 17592186044416
 rotate_left
 ·rw [if_neg c11] at H
  exact absurd H (by simp)
 rw [if_pos c11] at H
 have LMc11 := am c11
 clear c11
 obtain ⟨y487, hy487⟩ : ∃ y_ : List Int, y_ = (x3_1 ++ [x10_1]) := ⟨_, rfl⟩
 replace H : (impl_Channels.l0 k1 y487 (wrap64 (4 * t485)) (wrap64 (x10_1 + 1)) a0_0 a0_1 l0_2) = some r := ry_ hy487 H
 have Ny487 := am hy487
 clear hy487
 have H' := am H
 clear H
 obtain ⟨hcz12_0, hcz12_1, hcz12_2, hfz12_0, hfz12_1, hfz12_2⟩ := cz3_ BK481.out
 go_wp2_with (first | ((with_reducible refine gate_callee (f := 29) rfl ?_); refine gm_ (some 15) Try.func29 #[.agg #[.int .i64 a0_0, .int .i64 a0_1, .slice A0_2 l0_2.length c0_2], .int .i64 x10_1] rfl ?_; (with_reducible refine (impl_HasChannel.calls k1 a0_0 a0_1 _ _ l0_2 x10_1 true _ ?side1 HC0_2.out A9.out).mono ?_); (case side1 => exact cb_ HR0_2.out HB.out); rintro e w13 ⟨rfl, hb⟩; refine ⟨_, rfl, ?_⟩; replace HO_3 := rb_ HO_3 hb; replace BK481 := kb_ BK481 hb; replace HB := h9_ HB hb; (try clear hb)) | ((with_reducible refine gate_builtin (b := .append) (xs := #[.tmp 16, .tmp 18]) rfl ?_); at_builtin; refine Kd.R_append (Kd.int .i64) (w0 := w) w.heap.size rfl (.tmp 16) (.tmp 18) 26 3 (.int .i64 0) 8 rfl Try.underlying26 info3 rfl (by decide) (by omega) u3 x3_1 x10_1 [.int .i64 x10_1] (fun _ => True) (fun _ => False) rfl rfl ?aP (fun _ hk => hk.elim) ?aF ?aO ?aB ?aS ?aL ?_; (case aP => exact rfl); (case aB => exact (hb_ HB.out)); (case aF => exact (fun _ _ => trivial)); (case aO => exact (ra_ HO_3.out)); (case aS => exact (bz_ HB.out)); (case aL => have := LMc11.out; omega); intro v488 w14 ho hb hg hat; rw [← Ny487.out] at ho; have n0_ := am (blk_grown (g := gb481) (o := .cells #[.int .i64 a0_0, .int .i64 a0_1, .slice A0_2 l0_2.length c0_2] 28 (0, 0)) (bq_ BK481.out) hg (Kd.R_ne HO_3.out BK481.out (by decide))); have n1_ := am (hb); have n2_ := am (ho); clear BK481; clear HB; clear HO_3; have BK481 := n0_; have HB := n1_; have HO489 := n2_; clear n0_ n1_ n2_; clear ho hb hg hat))
 go_roundg k1
 case measure => have := HK1.out; omega
 case rel => exact ⟨(y487), (wrap64 (x10_1 + 1)), ef_, H', ⟨by have := HK1.out; omega⟩, ⟨ra_ HO489.out⟩, ⟨bq_ BK481.out⟩, ⟨bb_ HB.out⟩⟩
end Go.Proofs.Yteiemoooelpdaaa.PFnCreditSum
-- thin
