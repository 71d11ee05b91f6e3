/- The law's functions as plain functions, and their calls. No condition. -/
import Derived.Test.YtogapggfegplkaaPFnExactIsIdlex0
import Derived.Test.YtogapggfegplkaaPFnExactIsIdlex1
import Derived.Test.YtogapggfegplkaaPFnExactIsIdlex2
import Derived.Test.YtogapggfegplkaaPFnExactIsIdlex3
import Derived.Test.YtogapggfegplkaaPFnExactIsIdlex9
import Derived.Test.YtogapggfegplkaaPFnExactIsIdlex13
namespace Go.Proofs.Ytogapggfegplkaa.PFnExactIsIdle
open Go.RowKit Go.Proofs.YtogapggfegplkaaW.PrintWords Go.Proofs.YtogapggfegplkaaW.PrintLast Go.Proofs.YtogapggfegplkaaW.PrintMore
attribute [local go_sem] max2_int min2_int max_two min_two max_three min_three max_four min_four
set_option linter.unusedVariables false
set_option maxHeartbeats 8000000
set_option maxRecDepth 100000
set_option linter.unusedSimpArgs false

/-! ### impl_flitsIn: function 93 -/
def impl_flitsIn.l0 : Nat → Int → List (List (S138)) → Int → Int → Option (Int)
 | 0, _, _, _, _ => none
 | k + 1, x3, x6, x7, x8 => if x8 < x7 then (if 0 ≤ x8 then (if x8 < (x6.length : Int) then (impl_flitsIn.l0 k (wrap64 (x3 + ((rd_L5 x6 x8).length : Int))) x6 x7 (wrap64 (x8 + 1))) else (none)) else (none)) else (some x3)
def impl_flitsIn.f (k : Nat) (l0 : List (List (S138))) : Option (Int) := impl_flitsIn.l0 k 0 l0 (l0.length : Int) 0
theorem impl_flitsIn.mono_l : ∀ k, (∀ y0 y1 y2 y3, LeO (impl_flitsIn.l0 k y0 y1 y2 y3) (impl_flitsIn.l0 (k + 1) y0 y1 y2 y3))
 | 0 => fun _ _ _ _ r h => by simp [impl_flitsIn.l0] at h
 | k + 1 => by
  have ih0 := impl_flitsIn.mono_l k
  ·intro y0 y1 y2 y3
   unfold impl_flitsIn.l0
   repeat' first
   | (with_reducible exact ih0 _ _ _ _)
   | (with_reducible exact LeO.refl _)
   | (with_reducible exact LeO.none _)
   | (with_reducible refine LeO.ite ?_ ?_)
   | (with_reducible refine LeO.bind ?_ (fun _ => ?_))
   | exact ih0 _ _ _ _
   | exact LeO.none _
   | refine LeO.ite ?_ ?_
   | refine LeO.bind ?_ (fun _ => ?_)
theorem impl_flitsIn.mono : ∀ a0 k, LeO (impl_flitsIn.f k a0) (impl_flitsIn.f (k + 1) a0) := by
 intro a0 k
 have ih0 := impl_flitsIn.mono_l k
 unfold impl_flitsIn.f
 repeat' first
   | (with_reducible exact ih0 _ _ _ _)
   | (with_reducible exact LeO.refl _)
   | (with_reducible exact LeO.none _)
   | (with_reducible refine LeO.ite ?_ ?_)
   | (with_reducible refine LeO.bind ?_ (fun _ => ?_))
   | exact ih0 _ _ _ _
   | exact LeO.none _
   | refine LeO.ite ?_ ?_
   | refine LeO.bind ?_ (fun _ => ?_)
theorem impl_flitsIn.calls (k : Nat) (A0 : Option Addr) (c0 : Nat) (l0 : List (List (S138))) (r : Int) (w : World) (hr0 : Kd.C (Kd.slice 138 k138) w A0 l0.length l0) (hc0 : l0.length ≤ c0) (h : impl_flitsIn.f k l0 = some r) :
  Calls Try.prog 93 #[.slice A0 l0.length c0] w fun e w' => e = .returned (.int .i64 r) ∧ Drawn0 w w' := by
 have HR0 := Aside0.mk hr0
 have HC0 := Aside0.mk hc0
 clear hr0 hc0
 have H : (impl_flitsIn.l0 k 0 l0 (l0.length : Int) 0) = some r := h
 clear h
 have H' := Aside0.mk H
 clear H
 go_enter Try.func93, Try.ntmps93
 go_wp2
 go_loopg [3, 8] k (fun kq v3 v8 w' => ∃ (x3_1 : Int) (x8_1 : Int), v3 = .int .i64 x3_1 ∧ v8 = .int .i64 x8_1 ∧ Aside0 (impl_flitsIn.l0 kq x3_1 l0 (l0.length : Int) x8_1 = some r) ∧ Aside0 (kq ≤ k) ∧ Drawn0 w w')
 case atStart => exact ⟨(0), (0), ef_, ef_, H', ⟨Nat.le_refl _⟩, by repeat (first | exact Drawn0.refl _ | apply Drawn0.step)⟩
 case round =>
  clear H'
  obtain ⟨x3_1, x8_1, rfl, rfl, HA, HK1, ⟨m1, rfl⟩⟩ := hrel
  cases gk with
  | zero => exact absurd HA.out (by simp [impl_flitsIn.l0])
  | succ k1 =>
   have H := HA.out
   clear HA
   simp only [impl_flitsIn.l0] at H
   by_cases c2 : x8_1 < (l0.length : Int)
   ·rw [if_pos c2] at H
    have c2b0 : decide (x8_1 < (l0.length : Int)) = true := decide_eq_true c2
    clear c2
    by_cases c3 : 0 ≤ x8_1
    ·rw [if_pos c3] at H
     have c3b0 : decide (0 ≤ x8_1) = true := decide_eq_true c3
     clear c3
     by_cases c4 : x8_1 < (l0.length : Int)
     ·rw [if_pos c4] at H
      have c4b0 : decide (x8_1 < (l0.length : Int)) = true := decide_eq_true c4
      clear c4
      have H' := Aside0.mk H
      clear H
      have p421 : 0 ≤ (x8_1 : Int) := of_decide_eq_true dg_
      have q421 : x8_1 < (l0.length : Int) := of_decide_eq_true dg_
      obtain ⟨ad421, A421_0, c421_0, e421, hx421_0, hl421_0, hi421_0⟩ := at_L5 HR0.out x8_1 p421 q421
      cases e421
      have HR421_0 := Aside0.mk hi421_0
      have HC421_0 := Aside0.mk hl421_0
      clear hi421_0 hl421_0
      replace p421 := eq_true p421
      replace q421 := eq_true q421
      go_wp2
      go_roundg k1
      case measure => have := HK1.out; omega
      case rel => exact ⟨(wrap64 (x3_1 + ((rd_L5 l0 x8_1).length : Int))), (wrap64 (x8_1 + 1)), ef_, ef_, H', ⟨by have := HK1.out; omega⟩, by repeat (first | exact Drawn0.refl _ | apply Drawn0.step)⟩
     ·rw [if_neg c4] at H
      exact absurd H (by simp)
    ·rw [if_neg c3] at H
     exact absurd H (by simp)
   ·rw [if_neg c2] at H
    have c2b0 : decide (x8_1 < (l0.length : Int)) = false := decide_eq_false c2
    clear c2
    obtain rfl := Option.some.inj H
    go_wp2
    go_ret
    exact ⟨by first | rfl | (simp; done) | (simp [*]; done), by repeat (first | exact Drawn0.refl _ | apply Drawn0.step)⟩

/-! ### impl_Net_isIdle: function 128 -/
/-- A network behind a pointer, read. -/
def NetAt (W : World) (g : Nat) (s0 : Int) (s1 : Int) (s2 : List Int) (s3 : List Int) (s4 : List Int) (s5 : List (List S138)) (s6 : List Int) (s7 : List Int) (s8 : List (List S138)) (s9 : List (List S138)) (s10 : Int) : Prop := ∃ A2 c2 A3 c3 A4 c4 A5 c5 A6 c6 A7 c7 A8 c8 A9 c9, W.heap[g]? = some (.cells #[.int .i64 s0, .int .i64 s1, .slice A2 s2.length c2, .slice A3 s3.length c3, .slice A4 s4.length c4, .slice A5 s5.length c5, .slice A6 s6.length c6, .slice A7 s7.length c7, .slice A8 s8.length c8, .slice A9 s9.length c9, .int .i64 s10] 55 (0, 0)) ∧ (Kd.C (Kd.int .i64) W A2 s2.length s2 ∧ s2.length ≤ c2) ∧ (Kd.C (Kd.int .i64) W A3 s3.length s3 ∧ s3.length ≤ c3) ∧ (Kd.C (Kd.int .i64) W A4 s4.length s4 ∧ s4.length ≤ c4) ∧ (Kd.C (Kd.slice 138 k138) W A5 s5.length s5 ∧ s5.length ≤ c5) ∧ (Kd.C (Kd.int .i64) W A6 s6.length s6 ∧ s6.length ≤ c6) ∧ (Kd.C (Kd.int .i64) W A7 s7.length s7 ∧ s7.length ≤ c7) ∧ (Kd.C (Kd.slice 138 k138) W A8 s8.length s8 ∧ s8.length ≤ c8) ∧ (Kd.C (Kd.slice 138 k138) W A9 s9.length s9 ∧ s9.length ≤ c9)
theorem below_drawn0 {w V W : World} (h : Below w.heap.size w V) (d : Drawn0 V W) : Below w.heap.size w W := by
 obtain ⟨m, rfl⟩ := d
 exact pw_below_drewN h m
theorem bd0_ {w W : World} {g : Nat} {X} (h : w.heap[g]? = X) (d : Drawn0 w W) : W.heap[g]? = X := by
 obtain ⟨m, rfl⟩ := d
 exact h
def impl_Net_isIdle.f (k : Nat) (s5 s8 : List (List S138)) : Option Bool := (impl_flitsIn.f k s5).bind fun x => (if x = 0 then ((impl_flitsIn.f k s8).bind fun y => (if y = 0 then (some true) else (some false))) else (some false))
theorem impl_Net_isIdle.mono (s5 s8 : List (List S138)) : ∀ k, LeO (impl_Net_isIdle.f k s5 s8) (impl_Net_isIdle.f (k + 1) s5 s8) := by
 intro k
 unfold impl_Net_isIdle.f
 exact LeO.bind (impl_flitsIn.mono _ _) (fun _ => LeO.ite (LeO.bind (impl_flitsIn.mono _ _) (fun _ => LeO.refl _)) (LeO.refl _))
theorem impl_Net_isIdle.e0 {P : Prop} (h : P := by
 go_enter Try.func128, Try.ntmps128
 go_wp2_with (first | (go_at_call 93; (with_reducible refine (impl_flitsIn.calls k A5 c5 s5 _ _ ?side1 HC5.out A1.out).mono ?_); (case side1 => exact cb_ HR5.out HB.out); rintro e w_0 ⟨rfl, hd⟩; replace BK := Aside0.mk (bd0_ BK.out hd); replace HB := Aside0.mk (below_drawn0 HB.out hd); (try clear hd); obtain ⟨z0, z1, z2, z3, z4, z5, z6, z7, z8, z9, z10, f0, f1, f2, f3, f4, f5, f6, f7, f8, f9, f10⟩ := cz11_ BK.out) | (go_at_call 93; (with_reducible refine (impl_flitsIn.calls k A8 c8 s8 _ _ ?side2 HC8.out A2_.out).mono ?_); (case side2 => exact cb_ HR8.out HB.out); rintro e w_0 ⟨rfl, hd⟩; replace BK := Aside0.mk (bd0_ BK.out hd); replace HB := Aside0.mk (below_drawn0 HB.out hd); (try clear hd); obtain ⟨z0, z1, z2, z3, z4, z5, z6, z7, z8, z9, z10, f0, f1, f2, f3, f4, f5, f6, f7, f8, f9, f10⟩ := cz11_ BK.out))
 go_ret
 exact ⟨fin_, bb_ HB.out⟩) : P := h
set_option maxHeartbeats 4000000 in
theorem impl_Net_isIdle.calls (k g : Nat) (s0 : Int) (s1 : Int) (s2 : List Int) (s3 : List Int) (s4 : List Int) (s5 : List (List S138)) (s6 : List Int) (s7 : List Int) (s8 : List (List S138)) (s9 : List (List S138)) (s10 : Int) (r : Bool) (w : World) (hN : NetAt w g s0 s1 s2 s3 s4 s5 s6 s7 s8 s9 s10) (h : impl_Net_isIdle.f k s5 s8 = some r) :
  Calls Try.prog 128 #[.pointer (some ⟨g, 0, none⟩)] w fun e w' => e = .returned (.bool r) ∧ Below w.heap.size w w' := by
 obtain ⟨A2, c2, A3, c3, A4, c4, A5, c5, A6, c6, A7, c7, A8, c8, A9, c9, hb, ⟨h2, k2⟩, ⟨h3, k3⟩, ⟨h4, k4⟩, ⟨h5, k5⟩, ⟨h6, k6⟩, ⟨h7, k7⟩, ⟨h8, k8⟩, ⟨h9, k9⟩⟩ := hN
 have BK := Aside0.mk hb
 have HR5 := Aside0.mk h5
 have HC5 := Aside0.mk k5
 have HR8 := Aside0.mk h8
 have HC8 := Aside0.mk k8
 clear hb h2 k2 h3 k3 h4 k4 h5 k5 h6 k6 h7 k7 h8 k8 h9 k9
 have HB := Aside0.mk (Below.refl w.heap.size w)
 obtain ⟨z0, z1, z2, z3, z4, z5, z6, z7, z8, z9, z10, f0, f1, f2, f3, f4, f5, f6, f7, f8, f9, f10⟩ := cz11_ BK.out
 unfold impl_Net_isIdle.f at h
 obtain ⟨x, A10, h⟩ := Option.bind_eq_some_iff.1 h
 have A1 := Aside0.mk A10
 clear A10
 by_cases c1 : x = 0
 ·rw [if_pos c1] at h
  have c1b : (x == 0) = true := beq_iff_eq.mpr c1
  clear c1
  obtain ⟨y, A20, h⟩ := Option.bind_eq_some_iff.1 h
  have A2_ := Aside0.mk A20
  clear A20
  by_cases c2 : y = 0
  ·rw [if_pos c2] at h
   obtain rfl := Option.some.inj h
   have c2b : (y == 0) = true := beq_iff_eq.mpr c2
   clear c2 h
   exact impl_Net_isIdle.e0
  ·rw [if_neg c2] at h
   obtain rfl := Option.some.inj h
   have c2b : (y == 0) = false := beq_eq_false_iff_ne.mpr c2
   clear c2 h
   exact impl_Net_isIdle.e0
 ·rw [if_neg c1] at h
  obtain rfl := Option.some.inj h
  have c1b : (x == 0) = false := beq_eq_false_iff_ne.mpr c1
  clear c1 h
  exact impl_Net_isIdle.e0

/-! ### impl_IsIdle: function 64 -/
def impl_IsIdle.f (k : Nat) (a0_0 : Int) (a0_1 : Int) (l0_2 : List Int) (l0_3 : List Int) (l0_4 : List Int) (l0_5 : List (List S138)) (l0_6 : List Int) (l0_7 : List Int) (l0_8 : List (List S138)) (l0_9 : List (List S138)) (a0_10 : Int) : Option Bool := (impl_NetOk.f k a0_0 a0_1 l0_2 l0_3 l0_4 l0_5 l0_6 l0_7 l0_8 l0_9 a0_10).bind fun b1 => (if b1 = true then (impl_Net_isIdle.f k l0_5 l0_8) else (some false))
theorem impl_IsIdle.mono (a0_0 : Int) (a0_1 : Int) (l0_2 : List Int) (l0_3 : List Int) (l0_4 : List Int) (l0_5 : List (List S138)) (l0_6 : List Int) (l0_7 : List Int) (l0_8 : List (List S138)) (l0_9 : List (List S138)) (a0_10 : Int) : ∀ k, LeO (impl_IsIdle.f k a0_0 a0_1 l0_2 l0_3 l0_4 l0_5 l0_6 l0_7 l0_8 l0_9 a0_10) (impl_IsIdle.f (k + 1) a0_0 a0_1 l0_2 l0_3 l0_4 l0_5 l0_6 l0_7 l0_8 l0_9 a0_10) := by
 intro k
 unfold impl_IsIdle.f
 exact LeO.bind (impl_NetOk.mono _ _ _ _ _ _ _ _ _ _ _ _ ) (fun _ => LeO.ite (impl_Net_isIdle.mono _ _ _) (LeO.refl _))
theorem impl_IsIdle.lf {P : Prop} (h : P := by
 go_enter Try.func64, Try.ntmps64
 go_wp2_with (first | ((with_reducible refine gate_dst (N := 1) rfl ?_); refine box_event ?hg (N := 1) ?hd (cs := #[.int .i64 a0_0, .int .i64 a0_1, .slice A0_2 l0_2.length c0_2, .slice A0_3 l0_3.length c0_3, .slice A0_4 l0_4.length c0_4, .slice A0_5 l0_5.length c0_5, .slice A0_6 l0_6.length c0_6, .slice A0_7 l0_7.length c0_7, .slice A0_8 l0_8.length c0_8, .slice A0_9 l0_9.length c0_9, .int .i64 a0_10]) (t := 55) ?hr ?_; (case hd => rfl); (case hg => rfl); (case hr => first | (go_simp; done) | (go_simp; rfl)); intro gb hg w1 hbox hb; have BK := Aside0.mk hbox; replace HB := Aside0.mk (bs_ HB.out hb); clear hb hbox hg; obtain ⟨z0, z1, z2, z3, z4, z5, z6, z7, z8, z9, z10, f0, f1, f2, f3, f4, f5, f6, f7, f8, f9, f10⟩ := cz11_ BK.out) | (go_at_call 36; (with_reducible refine (impl_NetOk.calls k a0_0 a0_1 _ _ l0_2 _ _ l0_3 _ _ l0_4 _ _ l0_5 _ _ l0_6 _ _ l0_7 _ _ l0_8 _ _ l0_9 a0_10  _ _ ?side1 HC0_2.out ?side2 HC0_3.out ?side3 HC0_4.out ?side4 HC0_5.out ?side5 HC0_6.out ?side6 HC0_7.out ?side7 HC0_8.out ?side8 HC0_9.out A1.out).mono ?_); (case side1 => exact cb_ HR0_2.out HB.out); (case side2 => exact cb_ HR0_3.out HB.out); (case side3 => exact cb_ HR0_4.out HB.out); (case side4 => exact cb_ HR0_5.out HB.out); (case side5 => exact cb_ HR0_6.out HB.out); (case side6 => exact cb_ HR0_7.out HB.out); (case side7 => exact cb_ HR0_8.out HB.out); (case side8 => exact cb_ HR0_9.out HB.out); rintro e w1 ⟨rfl, hb⟩; replace BK := Aside0.mk (bk_ BK.out hb); replace HB := Aside0.mk (bs_ HB.out hb); (try clear hb); obtain ⟨z0, z1, z2, z3, z4, z5, z6, z7, z8, z9, z10, f0, f1, f2, f3, f4, f5, f6, f7, f8, f9, f10⟩ := cz11_ BK.out) | (go_at_call 128; (with_reducible refine (impl_Net_isIdle.calls k gb a0_0 a0_1 l0_2 l0_3 l0_4 l0_5 l0_6 l0_7 l0_8 l0_9 a0_10  _ _ ?side1 A4.out).mono ?_); (case side1 => exact ⟨A0_2, c0_2, A0_3, c0_3, A0_4, c0_4, A0_5, c0_5, A0_6, c0_6, A0_7, c0_7, A0_8, c0_8, A0_9, c0_9, bq_ BK.out, ⟨cb_ HR0_2.out HB.out, HC0_2.out⟩, ⟨cb_ HR0_3.out HB.out, HC0_3.out⟩, ⟨cb_ HR0_4.out HB.out, HC0_4.out⟩, ⟨cb_ HR0_5.out HB.out, HC0_5.out⟩, ⟨cb_ HR0_6.out HB.out, HC0_6.out⟩, ⟨cb_ HR0_7.out HB.out, HC0_7.out⟩, ⟨cb_ HR0_8.out HB.out, HC0_8.out⟩, ⟨cb_ HR0_9.out HB.out, HC0_9.out⟩⟩); rintro e w1 ⟨rfl, hb⟩; replace BK := Aside0.mk (bk_ BK.out hb); replace HB := Aside0.mk (bs_ HB.out hb); (try clear hb); obtain ⟨z0, z1, z2, z3, z4, z5, z6, z7, z8, z9, z10, f0, f1, f2, f3, f4, f5, f6, f7, f8, f9, f10⟩ := cz11_ BK.out))
 go_ret
 exact ⟨fin_, bb_ HB.out⟩) : P := h
set_option maxHeartbeats 4000000 in
theorem impl_IsIdle.calls (k : Nat) (a0_0 : Int) (a0_1 : Int) (A0_2 : Option Addr) (c0_2 : Nat) (l0_2 : List Int) (A0_3 : Option Addr) (c0_3 : Nat) (l0_3 : List Int) (A0_4 : Option Addr) (c0_4 : Nat) (l0_4 : List Int) (A0_5 : Option Addr) (c0_5 : Nat) (l0_5 : List (List S138)) (A0_6 : Option Addr) (c0_6 : Nat) (l0_6 : List Int) (A0_7 : Option Addr) (c0_7 : Nat) (l0_7 : List Int) (A0_8 : Option Addr) (c0_8 : Nat) (l0_8 : List (List S138)) (A0_9 : Option Addr) (c0_9 : Nat) (l0_9 : List (List S138)) (a0_10 : Int)  (r : Bool) (w : World) (hr0_2 : Kd.C (Kd.int .i64) w A0_2 l0_2.length l0_2) (hc0_2 : l0_2.length ≤ c0_2) (hr0_3 : Kd.C (Kd.int .i64) w A0_3 l0_3.length l0_3) (hc0_3 : l0_3.length ≤ c0_3) (hr0_4 : Kd.C (Kd.int .i64) w A0_4 l0_4.length l0_4) (hc0_4 : l0_4.length ≤ c0_4) (hr0_5 : Kd.C (Kd.slice 138 k138) w A0_5 l0_5.length l0_5) (hc0_5 : l0_5.length ≤ c0_5) (hr0_6 : Kd.C (Kd.int .i64) w A0_6 l0_6.length l0_6) (hc0_6 : l0_6.length ≤ c0_6) (hr0_7 : Kd.C (Kd.int .i64) w A0_7 l0_7.length l0_7) (hc0_7 : l0_7.length ≤ c0_7) (hr0_8 : Kd.C (Kd.slice 138 k138) w A0_8 l0_8.length l0_8) (hc0_8 : l0_8.length ≤ c0_8) (hr0_9 : Kd.C (Kd.slice 138 k138) w A0_9 l0_9.length l0_9) (hc0_9 : l0_9.length ≤ c0_9) (h : impl_IsIdle.f k a0_0 a0_1 l0_2 l0_3 l0_4 l0_5 l0_6 l0_7 l0_8 l0_9 a0_10  = some r) :
  Calls Try.prog 64 #[.agg #[.int .i64 a0_0, .int .i64 a0_1, .slice A0_2 l0_2.length c0_2, .slice A0_3 l0_3.length c0_3, .slice A0_4 l0_4.length c0_4, .slice A0_5 l0_5.length c0_5, .slice A0_6 l0_6.length c0_6, .slice A0_7 l0_7.length c0_7, .slice A0_8 l0_8.length c0_8, .slice A0_9 l0_9.length c0_9, .int .i64 a0_10]] w fun e w' => e = .returned (.bool r) ∧ Below w.heap.size w w' := by
 have HR0_2 := Aside0.mk hr0_2
 have HC0_2 := Aside0.mk hc0_2
 clear hr0_2 hc0_2
 have HR0_3 := Aside0.mk hr0_3
 have HC0_3 := Aside0.mk hc0_3
 clear hr0_3 hc0_3
 have HR0_4 := Aside0.mk hr0_4
 have HC0_4 := Aside0.mk hc0_4
 clear hr0_4 hc0_4
 have HR0_5 := Aside0.mk hr0_5
 have HC0_5 := Aside0.mk hc0_5
 clear hr0_5 hc0_5
 have HR0_6 := Aside0.mk hr0_6
 have HC0_6 := Aside0.mk hc0_6
 clear hr0_6 hc0_6
 have HR0_7 := Aside0.mk hr0_7
 have HC0_7 := Aside0.mk hc0_7
 clear hr0_7 hc0_7
 have HR0_8 := Aside0.mk hr0_8
 have HC0_8 := Aside0.mk hc0_8
 clear hr0_8 hc0_8
 have HR0_9 := Aside0.mk hr0_9
 have HC0_9 := Aside0.mk hc0_9
 clear hr0_9 hc0_9
 have HB := Aside0.mk (Below.refl w.heap.size w)
 unfold impl_IsIdle.f at h
 obtain ⟨b1, A10, h⟩ := Option.bind_eq_some_iff.1 h
 have A1 := Aside0.mk A10
 clear A10
 cases b1 with
 | false =>
  have h1 : some false = some r := h
  obtain rfl := Option.some.inj h1
  clear h h1
  exact impl_IsIdle.lf
 | true =>
  rw [if_pos rfl] at h
  have A4 := Aside0.mk h
  clear h
  exact impl_IsIdle.lf

/-! ### laws_FnExactIsIdle: function 14 -/
def laws_FnExactIsIdle.f (k : Nat) (a0_0 : Int) (a0_1 : Int) (l0_2 : List Int) (l0_3 : List Int) (l0_4 : List Int) (l0_5 : List (List (S183))) (l0_6 : List Int) (l0_7 : List Int) (l0_8 : List (List (S183))) (l0_9 : List (List (S183))) (a0_10 : Int) : Option (Bool) := (laws_szNet.f k a0_0 a0_1 l0_2 l0_3 l0_4 l0_5 l0_6 l0_7 l0_8 l0_9 a0_10 1048576).bind fun t423 => (if t423 < 0 then (some true) else ((laws_toNet.f k a0_0 a0_1 l0_2 l0_3 l0_4 l0_5 l0_6 l0_7 l0_8 l0_9 a0_10).bind fun bt424 => ((spec_IsIdle.f k bt424.1 bt424.2.1 bt424.2.2.1 bt424.2.2.2.1 bt424.2.2.2.2.1 bt424.2.2.2.2.2.1 bt424.2.2.2.2.2.2.1 bt424.2.2.2.2.2.2.2.1 bt424.2.2.2.2.2.2.2.2.1 bt424.2.2.2.2.2.2.2.2.2.1 bt424.2.2.2.2.2.2.2.2.2.2).bind fun t451 => ((laws_toNet.f k a0_0 a0_1 l0_2 l0_3 l0_4 l0_5 l0_6 l0_7 l0_8 l0_9 a0_10).bind fun bt452 => ((impl_IsIdle.f k bt452.1 bt452.2.1 bt452.2.2.1 bt452.2.2.2.1 bt452.2.2.2.2.1 bt452.2.2.2.2.2.1 bt452.2.2.2.2.2.2.1 bt452.2.2.2.2.2.2.2.1 bt452.2.2.2.2.2.2.2.2.1 bt452.2.2.2.2.2.2.2.2.2.1 bt452.2.2.2.2.2.2.2.2.2.2).bind fun t480 => (if (t480 != t451) = true then (none) else ((laws_toNet.f k a0_0 a0_1 l0_2 l0_3 l0_4 l0_5 l0_6 l0_7 l0_8 l0_9 a0_10).bind fun bt481 => ((laws_eqNet.f k bt452.1 bt452.2.1 bt452.2.2.1 bt452.2.2.2.1 bt452.2.2.2.2.1 bt452.2.2.2.2.2.1 bt452.2.2.2.2.2.2.1 bt452.2.2.2.2.2.2.2.1 bt452.2.2.2.2.2.2.2.2.1 bt452.2.2.2.2.2.2.2.2.2.1 bt452.2.2.2.2.2.2.2.2.2.2 bt481.1 bt481.2.1 bt481.2.2.1 bt481.2.2.2.1 bt481.2.2.2.2.1 bt481.2.2.2.2.2.1 bt481.2.2.2.2.2.2.1 bt481.2.2.2.2.2.2.2.1 bt481.2.2.2.2.2.2.2.2.1 bt481.2.2.2.2.2.2.2.2.2.1 bt481.2.2.2.2.2.2.2.2.2.2).bind fun t508 => (if t508 = true then (some true) else (none))))))))))
theorem laws_FnExactIsIdle.mono : ∀ a0 a1 a2 a3 a4 a5 a6 a7 a8 a9 a10 k, LeO (laws_FnExactIsIdle.f k a0 a1 a2 a3 a4 a5 a6 a7 a8 a9 a10) (laws_FnExactIsIdle.f (k + 1) a0 a1 a2 a3 a4 a5 a6 a7 a8 a9 a10) := by
 intro a0 a1 a2 a3 a4 a5 a6 a7 a8 a9 a10 k
 unfold laws_FnExactIsIdle.f
 repeat' first
   | (with_reducible exact impl_IsIdle.mono _ _ _ _ _ _ _ _ _ _ _ _)
   | (with_reducible exact laws_eqNet.mono _ _ _ _ _ _ _ _ _ _ _ _ _ _ _ _ _ _ _ _ _ _ _)
   | (with_reducible exact laws_szNet.mono _ _ _ _ _ _ _ _ _ _ _ _ _)
   | (with_reducible exact laws_toNet.mono _ _ _ _ _ _ _ _ _ _ _ _)
   | (with_reducible exact spec_IsIdle.mono _ _ _ _ _ _ _ _ _ _ _ _)
   | (with_reducible exact LeO.refl _)
   | (with_reducible exact LeO.none _)
   | (with_reducible refine LeO.ite ?_ ?_)
   | (with_reducible refine LeO.bind ?_ (fun _ => ?_))
   | exact impl_IsIdle.mono _ _ _ _ _ _ _ _ _ _ _ _
   | exact laws_eqNet.mono _ _ _ _ _ _ _ _ _ _ _ _ _ _ _ _ _ _ _ _ _ _ _
   | exact laws_szNet.mono _ _ _ _ _ _ _ _ _ _ _ _ _
   | exact laws_toNet.mono _ _ _ _ _ _ _ _ _ _ _ _
   | exact spec_IsIdle.mono _ _ _ _ _ _ _ _ _ _ _ _
   | exact LeO.none _
   | refine LeO.ite ?_ ?_
   | refine LeO.bind ?_ (fun _ => ?_)
theorem laws_FnExactIsIdle.calls (k : Nat) (a0_0 : Int) (a0_1 : Int) (A0_2 : Option Addr) (c0_2 : Nat) (l0_2 : List Int) (A0_3 : Option Addr) (c0_3 : Nat) (l0_3 : List Int) (A0_4 : Option Addr) (c0_4 : Nat) (l0_4 : List Int) (A0_5 : Option Addr) (c0_5 : Nat) (l0_5 : List (List (S183))) (A0_6 : Option Addr) (c0_6 : Nat) (l0_6 : List Int) (A0_7 : Option Addr) (c0_7 : Nat) (l0_7 : List Int) (A0_8 : Option Addr) (c0_8 : Nat) (l0_8 : List (List (S183))) (A0_9 : Option Addr) (c0_9 : Nat) (l0_9 : List (List (S183))) (a0_10 : Int) (r : Bool) (w : World) (hr0_2 : Kd.C (Kd.int .i64) w A0_2 l0_2.length l0_2) (hc0_2 : l0_2.length ≤ c0_2) (hr0_3 : Kd.C (Kd.int .i64) w A0_3 l0_3.length l0_3) (hc0_3 : l0_3.length ≤ c0_3) (hr0_4 : Kd.C (Kd.int .i64) w A0_4 l0_4.length l0_4) (hc0_4 : l0_4.length ≤ c0_4) (hr0_5 : Kd.C (Kd.slice 183 k183) w A0_5 l0_5.length l0_5) (hc0_5 : l0_5.length ≤ c0_5) (hr0_6 : Kd.C (Kd.int .i64) w A0_6 l0_6.length l0_6) (hc0_6 : l0_6.length ≤ c0_6) (hr0_7 : Kd.C (Kd.int .i64) w A0_7 l0_7.length l0_7) (hc0_7 : l0_7.length ≤ c0_7) (hr0_8 : Kd.C (Kd.slice 183 k183) w A0_8 l0_8.length l0_8) (hc0_8 : l0_8.length ≤ c0_8) (hr0_9 : Kd.C (Kd.slice 183 k183) w A0_9 l0_9.length l0_9) (hc0_9 : l0_9.length ≤ c0_9) (h : laws_FnExactIsIdle.f k a0_0 a0_1 l0_2 l0_3 l0_4 l0_5 l0_6 l0_7 l0_8 l0_9 a0_10 = some r) :
  Calls Try.prog 14 #[.agg #[.int .i64 a0_0, .int .i64 a0_1, .slice A0_2 l0_2.length c0_2, .slice A0_3 l0_3.length c0_3, .slice A0_4 l0_4.length c0_4, .slice A0_5 l0_5.length c0_5, .slice A0_6 l0_6.length c0_6, .slice A0_7 l0_7.length c0_7, .slice A0_8 l0_8.length c0_8, .slice A0_9 l0_9.length c0_9, .int .i64 a0_10]] w fun e w' => e = .returned (.bool r) ∧ Below w.heap.size w w' := by
 have hu78 := Try.underlying78
 have hu55 := Try.underlying55
 have HR0_2 := Aside0.mk hr0_2
 have HC0_2 := Aside0.mk hc0_2
 clear hr0_2 hc0_2
 have HR0_3 := Aside0.mk hr0_3
 have HC0_3 := Aside0.mk hc0_3
 clear hr0_3 hc0_3
 have HR0_4 := Aside0.mk hr0_4
 have HC0_4 := Aside0.mk hc0_4
 clear hr0_4 hc0_4
 have HR0_5 := Aside0.mk hr0_5
 have HC0_5 := Aside0.mk hc0_5
 clear hr0_5 hc0_5
 have HR0_6 := Aside0.mk hr0_6
 have HC0_6 := Aside0.mk hc0_6
 clear hr0_6 hc0_6
 have HR0_7 := Aside0.mk hr0_7
 have HC0_7 := Aside0.mk hc0_7
 clear hr0_7 hc0_7
 have HR0_8 := Aside0.mk hr0_8
 have HC0_8 := Aside0.mk hc0_8
 clear hr0_8 hc0_8
 have HR0_9 := Aside0.mk hr0_9
 have HC0_9 := Aside0.mk hc0_9
 clear hr0_9 hc0_9
 have HB := Aside0.mk (Below.refl w.heap.size w)
 have H : ((laws_szNet.f k a0_0 a0_1 l0_2 l0_3 l0_4 l0_5 l0_6 l0_7 l0_8 l0_9 a0_10 1048576).bind fun t423 => (if t423 < 0 then (some true) else ((laws_toNet.f k a0_0 a0_1 l0_2 l0_3 l0_4 l0_5 l0_6 l0_7 l0_8 l0_9 a0_10).bind fun bt424 => ((spec_IsIdle.f k bt424.1 bt424.2.1 bt424.2.2.1 bt424.2.2.2.1 bt424.2.2.2.2.1 bt424.2.2.2.2.2.1 bt424.2.2.2.2.2.2.1 bt424.2.2.2.2.2.2.2.1 bt424.2.2.2.2.2.2.2.2.1 bt424.2.2.2.2.2.2.2.2.2.1 bt424.2.2.2.2.2.2.2.2.2.2).bind fun t451 => ((laws_toNet.f k a0_0 a0_1 l0_2 l0_3 l0_4 l0_5 l0_6 l0_7 l0_8 l0_9 a0_10).bind fun bt452 => ((impl_IsIdle.f k bt452.1 bt452.2.1 bt452.2.2.1 bt452.2.2.2.1 bt452.2.2.2.2.1 bt452.2.2.2.2.2.1 bt452.2.2.2.2.2.2.1 bt452.2.2.2.2.2.2.2.1 bt452.2.2.2.2.2.2.2.2.1 bt452.2.2.2.2.2.2.2.2.2.1 bt452.2.2.2.2.2.2.2.2.2.2).bind fun t480 => (if (t480 != t451) = true then (none) else ((laws_toNet.f k a0_0 a0_1 l0_2 l0_3 l0_4 l0_5 l0_6 l0_7 l0_8 l0_9 a0_10).bind fun bt481 => ((laws_eqNet.f k bt452.1 bt452.2.1 bt452.2.2.1 bt452.2.2.2.1 bt452.2.2.2.2.1 bt452.2.2.2.2.2.1 bt452.2.2.2.2.2.2.1 bt452.2.2.2.2.2.2.2.1 bt452.2.2.2.2.2.2.2.2.1 bt452.2.2.2.2.2.2.2.2.2.1 bt452.2.2.2.2.2.2.2.2.2.2 bt481.1 bt481.2.1 bt481.2.2.1 bt481.2.2.2.1 bt481.2.2.2.2.1 bt481.2.2.2.2.2.1 bt481.2.2.2.2.2.2.1 bt481.2.2.2.2.2.2.2.1 bt481.2.2.2.2.2.2.2.2.1 bt481.2.2.2.2.2.2.2.2.2.1 bt481.2.2.2.2.2.2.2.2.2.2).bind fun t508 => (if t508 = true then (some true) else (none))))))))))) = some r := h
 clear h
 replace H := Option.bind_eq_some_iff.mp H
 obtain ⟨t423, A20, H⟩ := H
 try dsimp only at H
 have A2 := Aside0.mk A20
 clear A20
 by_cases c3 : t423 < 0
 ·rw [if_pos c3] at H
  have c3b0 : decide (t423 < 0) = true := decide_eq_true c3
  clear c3
  obtain rfl := Option.some.inj H
  go_enter Try.func14, Try.ntmps14
  go_wp2_with (first | ((with_reducible refine gate_dst (N := 1) rfl ?_); refine box_event ?hg (N := 1) ?hd (cs := #[.int .i64 a0_0, .int .i64 a0_1, .slice A0_2 l0_2.length c0_2, .slice A0_3 l0_3.length c0_3, .slice A0_4 l0_4.length c0_4, .slice A0_5 l0_5.length c0_5, .slice A0_6 l0_6.length c0_6, .slice A0_7 l0_7.length c0_7, .slice A0_8 l0_8.length c0_8, .slice A0_9 l0_9.length c0_9, .int .i64 a0_10]) (t := 78) ?hr ?_; (case hd => rfl); (case hg => rfl); (case hr => first | (go_simp; done) | (go_simp; rfl)); intro gb422 hg w4 hbox hb; have BK422 := Aside0.mk (hbox); have GW422 := Aside0.mk ((by rw [hg]; exact (bz_ HB.out) : w.heap.size ≤ gb422)); have GE422 := Aside0.mk ((by rw [hg]; exact (bz_ HB.out) : w.heap.size ≤ gb422)); replace HB := Aside0.mk (bs_ HB.out hb); clear hb hbox hg; obtain ⟨hcz5_0, hcz5_1, hcz5_2, hcz5_3, hcz5_4, hcz5_5, hcz5_6, hcz5_7, hcz5_8, hcz5_9, hcz5_10, hfz5_0, hfz5_1, hfz5_2, hfz5_3, hfz5_4, hfz5_5, hfz5_6, hfz5_7, hfz5_8, hfz5_9, hfz5_10⟩ := cz11_ BK422.out) | ((with_reducible refine gate_callee (f := 48) rfl ?_); refine gm_ (some 9) Try.func48 #[.agg #[.int .i64 a0_0, .int .i64 a0_1, .slice A0_2 l0_2.length c0_2, .slice A0_3 l0_3.length c0_3, .slice A0_4 l0_4.length c0_4, .slice A0_5 l0_5.length c0_5, .slice A0_6 l0_6.length c0_6, .slice A0_7 l0_7.length c0_7, .slice A0_8 l0_8.length c0_8, .slice A0_9 l0_9.length c0_9, .int .i64 a0_10], .int .i64 1048576] rfl ?_; (with_reducible refine (laws_szNet.calls k a0_0 a0_1 _ _ l0_2 _ _ l0_3 _ _ l0_4 _ _ l0_5 _ _ l0_6 _ _ l0_7 _ _ l0_8 _ _ l0_9 a0_10 1048576 t423 _ ?side1 HC0_2.out ?side3 HC0_3.out ?side5 HC0_4.out ?side7 HC0_5.out ?side9 HC0_6.out ?side11 HC0_7.out ?side13 HC0_8.out ?side15 HC0_9.out A2.out).mono ?_); (case side1 => exact cb_ HR0_2.out HB.out); (case side3 => exact cb_ HR0_3.out HB.out); (case side5 => exact cb_ HR0_4.out HB.out); (case side7 => exact cb_ HR0_5.out HB.out); (case side9 => exact cb_ HR0_6.out HB.out); (case side11 => exact cb_ HR0_7.out HB.out); (case side13 => exact cb_ HR0_8.out HB.out); (case side15 => exact cb_ HR0_9.out HB.out); rintro e w6 ⟨rfl, hb⟩; refine ⟨_, rfl, ?_⟩; replace BK422 := Aside0.mk (bk_ BK422.out hb); replace HB := Aside0.mk (bs_ HB.out hb); (try clear hb)))
  go_ret
  exact ⟨fin_, bb_ HB.out⟩
 ·rw [if_neg c3] at H
  have c3b0 : decide (t423 < 0) = false := decide_eq_false c3
  clear c3
  replace H := Option.bind_eq_some_iff.mp H
  obtain ⟨⟨t424, t425, t426, t429, t432, t435, t438, t441, t444, t447, t450⟩, A70, H⟩ := H
  try dsimp only at H
  have A7 := Aside0.mk A70
  clear A70
  replace H := Option.bind_eq_some_iff.mp H
  obtain ⟨t451, A80, H⟩ := H
  try dsimp only at H
  have A8 := Aside0.mk A80
  clear A80
  replace H := Option.bind_eq_some_iff.mp H
  obtain ⟨⟨t452, t453, t454, t457, t460, t463, t466, t469, t472, t475, t478⟩, A90, H⟩ := H
  try dsimp only at H
  have A9 := Aside0.mk A90
  clear A90
  replace H := Option.bind_eq_some_iff.mp H
  obtain ⟨t480, A100, H⟩ := H
  try dsimp only at H
  have A10 := Aside0.mk A100
  clear A100
  by_cases c11 : (t480 != t451) = true
  ·rw [if_pos c11] at H
   exact absurd H (by simp)
  ·rw [if_neg c11] at H
   have c11b0 : (t480 != t451) = false := by simpa using c11
   (try (have c11b1 : decide (t480 = t451) = true := by simpa using c11))
   (try (have c11b2 : (t480 == t451) = true := by simpa using c11))
   clear c11
   replace H := Option.bind_eq_some_iff.mp H
   obtain ⟨⟨t481, t482, t483, t486, t489, t492, t495, t498, t501, t504, t507⟩, A120, H⟩ := H
   try dsimp only at H
   have A12 := Aside0.mk A120
   clear A120
   replace H := Option.bind_eq_some_iff.mp H
   obtain ⟨t508, A130, H⟩ := H
   try dsimp only at H
   have A13 := Aside0.mk A130
   clear A130
   by_cases c14 : t508 = true
   ·subst c14
    rw [if_pos rfl] at H
    obtain rfl := Option.some.inj H
    go_enter Try.func14, Try.ntmps14
    try go_wp2_with (first | ((with_reducible refine gate_dst (N := 1) rfl ?_); refine box_event ?hg (N := 1) ?hd (cs := #[.int .i64 a0_0, .int .i64 a0_1, .slice A0_2 l0_2.length c0_2, .slice A0_3 l0_3.length c0_3, .slice A0_4 l0_4.length c0_4, .slice A0_5 l0_5.length c0_5, .slice A0_6 l0_6.length c0_6, .slice A0_7 l0_7.length c0_7, .slice A0_8 l0_8.length c0_8, .slice A0_9 l0_9.length c0_9, .int .i64 a0_10]) (t := 78) ?hr ?_; (case hd => rfl); (case hg => rfl); (case hr => first | (go_simp; done) | (go_simp; rfl)); intro gb422 hg w15 hbox hb; have BK422 := Aside0.mk (hbox); have GW422 := Aside0.mk ((by rw [hg]; exact (bz_ HB.out) : w.heap.size ≤ gb422)); have GE422 := Aside0.mk ((by rw [hg]; exact (bz_ HB.out) : w.heap.size ≤ gb422)); replace HB := Aside0.mk (bs_ HB.out hb); clear hb hbox hg; obtain ⟨hcz16_0, hcz16_1, hcz16_2, hcz16_3, hcz16_4, hcz16_5, hcz16_6, hcz16_7, hcz16_8, hcz16_9, hcz16_10, hfz16_0, hfz16_1, hfz16_2, hfz16_3, hfz16_4, hfz16_5, hfz16_6, hfz16_7, hfz16_8, hfz16_9, hfz16_10⟩ := cz11_ BK422.out) | ((with_reducible refine gate_callee (f := 48) rfl ?_); refine gm_ (some 9) Try.func48 #[.agg #[.int .i64 a0_0, .int .i64 a0_1, .slice A0_2 l0_2.length c0_2, .slice A0_3 l0_3.length c0_3, .slice A0_4 l0_4.length c0_4, .slice A0_5 l0_5.length c0_5, .slice A0_6 l0_6.length c0_6, .slice A0_7 l0_7.length c0_7, .slice A0_8 l0_8.length c0_8, .slice A0_9 l0_9.length c0_9, .int .i64 a0_10], .int .i64 1048576] rfl ?_; (with_reducible refine (laws_szNet.calls k a0_0 a0_1 _ _ l0_2 _ _ l0_3 _ _ l0_4 _ _ l0_5 _ _ l0_6 _ _ l0_7 _ _ l0_8 _ _ l0_9 a0_10 1048576 t423 _ ?side1 HC0_2.out ?side3 HC0_3.out ?side5 HC0_4.out ?side7 HC0_5.out ?side9 HC0_6.out ?side11 HC0_7.out ?side13 HC0_8.out ?side15 HC0_9.out A2.out).mono ?_); (case side1 => exact cb_ HR0_2.out HB.out); (case side3 => exact cb_ HR0_3.out HB.out); (case side5 => exact cb_ HR0_4.out HB.out); (case side7 => exact cb_ HR0_5.out HB.out); (case side9 => exact cb_ HR0_6.out HB.out); (case side11 => exact cb_ HR0_7.out HB.out); (case side13 => exact cb_ HR0_8.out HB.out); (case side15 => exact cb_ HR0_9.out HB.out); rintro e w17 ⟨rfl, hb⟩; refine ⟨_, rfl, ?_⟩; replace BK422 := Aside0.mk (bk_ BK422.out hb); replace HB := Aside0.mk (bs_ HB.out hb); (try clear hb); obtain ⟨hcz18_0, hcz18_1, hcz18_2, hcz18_3, hcz18_4, hcz18_5, hcz18_6, hcz18_7, hcz18_8, hcz18_9, hcz18_10, hfz18_0, hfz18_1, hfz18_2, hfz18_3, hfz18_4, hfz18_5, hfz18_6, hfz18_7, hfz18_8, hfz18_9, hfz18_10⟩ := cz11_ BK422.out) | ((with_reducible refine gate_callee (f := 50) rfl ?_); refine gm_ (some 13) Try.func50 #[.agg #[.int .i64 a0_0, .int .i64 a0_1, .slice A0_2 l0_2.length c0_2, .slice A0_3 l0_3.length c0_3, .slice A0_4 l0_4.length c0_4, .slice A0_5 l0_5.length c0_5, .slice A0_6 l0_6.length c0_6, .slice A0_7 l0_7.length c0_7, .slice A0_8 l0_8.length c0_8, .slice A0_9 l0_9.length c0_9, .int .i64 a0_10]] rfl ?_; (with_reducible refine (laws_toNet.calls k a0_0 a0_1 _ _ l0_2 _ _ l0_3 _ _ l0_4 _ _ l0_5 _ _ l0_6 _ _ l0_7 _ _ l0_8 _ _ l0_9 a0_10 t424 t425 t426 t429 t432 t435 t438 t441 t444 t447 t450 _ ?side1 HC0_2.out ?side3 HC0_3.out ?side5 HC0_4.out ?side7 HC0_5.out ?side9 HC0_6.out ?side11 HC0_7.out ?side13 HC0_8.out ?side15 HC0_9.out A7.out).mono ?_); (case side1 => exact cb_ HR0_2.out HB.out); (case side3 => exact cb_ HR0_3.out HB.out); (case side5 => exact cb_ HR0_4.out HB.out); (case side7 => exact cb_ HR0_5.out HB.out); (case side9 => exact cb_ HR0_6.out HB.out); (case side11 => exact cb_ HR0_7.out HB.out); (case side13 => exact cb_ HR0_8.out HB.out); (case side15 => exact cb_ HR0_9.out HB.out); rintro e w19 ⟨v427, v430, v433, v436, v439, v442, v445, v448, rfl, ho0, ho1, ho2, ho3, ho4, ho5, ho6, ho7, hb⟩; refine ⟨_, rfl, ?_⟩; have HO428 := Aside0.mk (Kd.R_lower ho0 (bz_ HB.out)); have HO431 := Aside0.mk (Kd.R_lower ho1 (bz_ HB.out)); have HO434 := Aside0.mk (Kd.R_lower ho2 (bz_ HB.out)); have HO437 := Aside0.mk (Kd.S_lower ho3 (bz_ HB.out)); have HO440 := Aside0.mk (Kd.R_lower ho4 (bz_ HB.out)); have HO443 := Aside0.mk (Kd.R_lower ho5 (bz_ HB.out)); have HO446 := Aside0.mk (Kd.S_lower ho6 (bz_ HB.out)); have HO449 := Aside0.mk (Kd.S_lower ho7 (bz_ HB.out)); replace BK422 := Aside0.mk (bk_ BK422.out hb); replace HB := Aside0.mk (bs_ HB.out hb); (try clear hb); (try clear ho0); (try clear ho1); (try clear ho2); (try clear ho3); (try clear ho4); (try clear ho5); (try clear ho6); (try clear ho7); obtain ⟨Ao20, co20, eo20⟩ := Kd.R_slice HO428.out; subst eo20; obtain ⟨Ao21, co21, eo21⟩ := Kd.R_slice HO431.out; subst eo21; obtain ⟨Ao22, co22, eo22⟩ := Kd.R_slice HO434.out; subst eo22; obtain ⟨Ao23, co23, eo23⟩ := Kd.S_slice HO437.out; subst eo23; obtain ⟨Ao24, co24, eo24⟩ := Kd.R_slice HO440.out; subst eo24; obtain ⟨Ao25, co25, eo25⟩ := Kd.R_slice HO443.out; subst eo25; obtain ⟨Ao26, co26, eo26⟩ := Kd.S_slice HO446.out; subst eo26; obtain ⟨Ao27, co27, eo27⟩ := Kd.S_slice HO449.out; subst eo27) | ((with_reducible refine gate_callee (f := 63) rfl ?_); refine gm_ (some 14) Try.func63 #[.agg #[.int .i64 t424, .int .i64 t425, .slice Ao20 t426.length co20, .slice Ao21 t429.length co21, .slice Ao22 t432.length co22, .slice Ao23 t435.length co23, .slice Ao24 t438.length co24, .slice Ao25 t441.length co25, .slice Ao26 t444.length co26, .slice Ao27 t447.length co27, .int .i64 t450]] rfl ?_; (with_reducible refine (spec_IsIdle.calls k t424 t425 _ _ t426 _ _ t429 _ _ t432 _ _ t435 _ _ t438 _ _ t441 _ _ t444 _ _ t447 t450 t451 _ ?side1 ?side2 ?side3 ?side4 ?side5 ?side6 ?side7 ?side8 ?side9 ?side10 ?side11 ?side12 ?side13 ?side14 ?side15 ?side16 A8.out).mono ?_); (case side1 => repeat (first | exact (Kd.R_reads' HO428.out).2.2 | (with_reducible refine Kd.C_alloc ?_ _) | (with_reducible refine Kd.C_drewN ?_ _) | (with_reducible refine Kd.C_drew ?_))); (case side2 => exact (Kd.R_reads' HO428.out).2.1); (case side3 => repeat (first | exact (Kd.R_reads' HO431.out).2.2 | (with_reducible refine Kd.C_alloc ?_ _) | (with_reducible refine Kd.C_drewN ?_ _) | (with_reducible refine Kd.C_drew ?_))); (case side4 => exact (Kd.R_reads' HO431.out).2.1); (case side5 => repeat (first | exact (Kd.R_reads' HO434.out).2.2 | (with_reducible refine Kd.C_alloc ?_ _) | (with_reducible refine Kd.C_drewN ?_ _) | (with_reducible refine Kd.C_drew ?_))); (case side6 => exact (Kd.R_reads' HO434.out).2.1); (case side7 => repeat (first | exact (Kd.S_reads' HO437.out).2.2 | (with_reducible refine Kd.C_alloc ?_ _) | (with_reducible refine Kd.C_drewN ?_ _) | (with_reducible refine Kd.C_drew ?_))); (case side8 => exact (Kd.S_reads' HO437.out).2.1); (case side9 => repeat (first | exact (Kd.R_reads' HO440.out).2.2 | (with_reducible refine Kd.C_alloc ?_ _) | (with_reducible refine Kd.C_drewN ?_ _) | (with_reducible refine Kd.C_drew ?_))); (case side10 => exact (Kd.R_reads' HO440.out).2.1); (case side11 => repeat (first | exact (Kd.R_reads' HO443.out).2.2 | (with_reducible refine Kd.C_alloc ?_ _) | (with_reducible refine Kd.C_drewN ?_ _) | (with_reducible refine Kd.C_drew ?_))); (case side12 => exact (Kd.R_reads' HO443.out).2.1); (case side13 => repeat (first | exact (Kd.S_reads' HO446.out).2.2 | (with_reducible refine Kd.C_alloc ?_ _) | (with_reducible refine Kd.C_drewN ?_ _) | (with_reducible refine Kd.C_drew ?_))); (case side14 => exact (Kd.S_reads' HO446.out).2.1); (case side15 => repeat (first | exact (Kd.S_reads' HO449.out).2.2 | (with_reducible refine Kd.C_alloc ?_ _) | (with_reducible refine Kd.C_drewN ?_ _) | (with_reducible refine Kd.C_drew ?_))); (case side16 => exact (Kd.S_reads' HO449.out).2.1); rintro e w28 ⟨rfl, hb⟩; refine ⟨_, rfl, ?_⟩; replace HO428 := Aside0.mk (Kd.R_below (ra_ HO428.out) hb); replace HO431 := Aside0.mk (Kd.R_below (ra_ HO431.out) hb); replace HO434 := Aside0.mk (Kd.R_below (ra_ HO434.out) hb); replace HO437 := Aside0.mk (Kd.S_below (sa_ HO437.out) hb); replace HO440 := Aside0.mk (Kd.R_below (ra_ HO440.out) hb); replace HO443 := Aside0.mk (Kd.R_below (ra_ HO443.out) hb); replace HO446 := Aside0.mk (Kd.S_below (sa_ HO446.out) hb); replace HO449 := Aside0.mk (Kd.S_below (sa_ HO449.out) hb); replace BK422 := Aside0.mk (bk_ BK422.out hb); replace HB := Aside0.mk (bs_ HB.out hb); (try clear hb); obtain ⟨hcz29_0, hcz29_1, hcz29_2, hcz29_3, hcz29_4, hcz29_5, hcz29_6, hcz29_7, hcz29_8, hcz29_9, hcz29_10, hfz29_0, hfz29_1, hfz29_2, hfz29_3, hfz29_4, hfz29_5, hfz29_6, hfz29_7, hfz29_8, hfz29_9, hfz29_10⟩ := cz11_ BK422.out) | ((with_reducible refine gate_callee (f := 50) rfl ?_); refine gm_ (some 16) Try.func50 #[.agg #[.int .i64 a0_0, .int .i64 a0_1, .slice A0_2 l0_2.length c0_2, .slice A0_3 l0_3.length c0_3, .slice A0_4 l0_4.length c0_4, .slice A0_5 l0_5.length c0_5, .slice A0_6 l0_6.length c0_6, .slice A0_7 l0_7.length c0_7, .slice A0_8 l0_8.length c0_8, .slice A0_9 l0_9.length c0_9, .int .i64 a0_10]] rfl ?_; (with_reducible refine (laws_toNet.calls k a0_0 a0_1 _ _ l0_2 _ _ l0_3 _ _ l0_4 _ _ l0_5 _ _ l0_6 _ _ l0_7 _ _ l0_8 _ _ l0_9 a0_10 t452 t453 t454 t457 t460 t463 t466 t469 t472 t475 t478 _ ?side1 HC0_2.out ?side3 HC0_3.out ?side5 HC0_4.out ?side7 HC0_5.out ?side9 HC0_6.out ?side11 HC0_7.out ?side13 HC0_8.out ?side15 HC0_9.out A9.out).mono ?_); (case side1 => exact cb_ HR0_2.out HB.out); (case side3 => exact cb_ HR0_3.out HB.out); (case side5 => exact cb_ HR0_4.out HB.out); (case side7 => exact cb_ HR0_5.out HB.out); (case side9 => exact cb_ HR0_6.out HB.out); (case side11 => exact cb_ HR0_7.out HB.out); (case side13 => exact cb_ HR0_8.out HB.out); (case side15 => exact cb_ HR0_9.out HB.out); rintro e w30 ⟨v455, v458, v461, v464, v467, v470, v473, v476, rfl, ho0, ho1, ho2, ho3, ho4, ho5, ho6, ho7, hb⟩; refine ⟨_, rfl, ?_⟩; have HO456 := Aside0.mk (Kd.R_lower (Kd.R_new' (Kd.R_new' (Kd.R_new' (Kd.R_new' (Kd.R_new' ho0 (rl_ HO428.out)) (rl_ HO431.out)) (rl_ HO434.out)) (rl_ HO440.out)) (rl_ HO443.out)) (bz_ HB.out)); have HO459 := Aside0.mk (Kd.R_lower (Kd.R_new' (Kd.R_new' (Kd.R_new' (Kd.R_new' (Kd.R_new' ho1 (rl_ HO428.out)) (rl_ HO431.out)) (rl_ HO434.out)) (rl_ HO440.out)) (rl_ HO443.out)) (bz_ HB.out)); have HO462 := Aside0.mk (Kd.R_lower (Kd.R_new' (Kd.R_new' (Kd.R_new' (Kd.R_new' (Kd.R_new' ho2 (rl_ HO428.out)) (rl_ HO431.out)) (rl_ HO434.out)) (rl_ HO440.out)) (rl_ HO443.out)) (bz_ HB.out)); have HO465 := Aside0.mk (Kd.S_lower (Kd.S_new' (Kd.S_new' (Kd.S_new' ho3 (sl_ HO437.out)) (sl_ HO446.out)) (sl_ HO449.out)) (bz_ HB.out)); have HO468 := Aside0.mk (Kd.R_lower (Kd.R_new' (Kd.R_new' (Kd.R_new' (Kd.R_new' (Kd.R_new' ho4 (rl_ HO428.out)) (rl_ HO431.out)) (rl_ HO434.out)) (rl_ HO440.out)) (rl_ HO443.out)) (bz_ HB.out)); have HO471 := Aside0.mk (Kd.R_lower (Kd.R_new' (Kd.R_new' (Kd.R_new' (Kd.R_new' (Kd.R_new' ho5 (rl_ HO428.out)) (rl_ HO431.out)) (rl_ HO434.out)) (rl_ HO440.out)) (rl_ HO443.out)) (bz_ HB.out)); replace HO428 := Aside0.mk (Kd.R_mono (Kd.R_told (Kd.R_told (Kd.R_told (Kd.R_told (Kd.R_told (Kd.R_old (ra_ HO428.out) hb) (Kd.R_base ho0)) (Kd.R_base ho1)) (Kd.R_base ho2)) (Kd.R_base ho4)) (Kd.R_base ho5)) (fun _ h_ => h_.1)); replace HO431 := Aside0.mk (Kd.R_mono (Kd.R_told (Kd.R_told (Kd.R_told (Kd.R_told (Kd.R_told (Kd.R_old (ra_ HO431.out) hb) (Kd.R_base ho0)) (Kd.R_base ho1)) (Kd.R_base ho2)) (Kd.R_base ho4)) (Kd.R_base ho5)) (fun _ h_ => h_.1)); replace HO434 := Aside0.mk (Kd.R_mono (Kd.R_told (Kd.R_told (Kd.R_told (Kd.R_told (Kd.R_told (Kd.R_old (ra_ HO434.out) hb) (Kd.R_base ho0)) (Kd.R_base ho1)) (Kd.R_base ho2)) (Kd.R_base ho4)) (Kd.R_base ho5)) (fun _ h_ => h_.1)); replace HO440 := Aside0.mk (Kd.R_mono (Kd.R_told (Kd.R_told (Kd.R_told (Kd.R_told (Kd.R_told (Kd.R_old (ra_ HO440.out) hb) (Kd.R_base ho0)) (Kd.R_base ho1)) (Kd.R_base ho2)) (Kd.R_base ho4)) (Kd.R_base ho5)) (fun _ h_ => h_.1)); replace HO443 := Aside0.mk (Kd.R_mono (Kd.R_told (Kd.R_told (Kd.R_told (Kd.R_told (Kd.R_told (Kd.R_old (ra_ HO443.out) hb) (Kd.R_base ho0)) (Kd.R_base ho1)) (Kd.R_base ho2)) (Kd.R_base ho4)) (Kd.R_base ho5)) (fun _ h_ => h_.1)); have HO474 := Aside0.mk (Kd.S_lower (Kd.S_new' (Kd.S_new' (Kd.S_new' ho6 (sl_ HO437.out)) (sl_ HO446.out)) (sl_ HO449.out)) (bz_ HB.out)); have HO477 := Aside0.mk (Kd.S_lower (Kd.S_new' (Kd.S_new' (Kd.S_new' ho7 (sl_ HO437.out)) (sl_ HO446.out)) (sl_ HO449.out)) (bz_ HB.out)); replace HO437 := Aside0.mk (Kd.S_mono (Kd.S_told (Kd.S_told (Kd.S_told (Kd.S_old (sa_ HO437.out) hb) (Kd.S_base ho3)) (Kd.S_base ho6)) (Kd.S_base ho7)) (fun _ h_ => h_.1)); replace HO446 := Aside0.mk (Kd.S_mono (Kd.S_told (Kd.S_told (Kd.S_told (Kd.S_old (sa_ HO446.out) hb) (Kd.S_base ho3)) (Kd.S_base ho6)) (Kd.S_base ho7)) (fun _ h_ => h_.1)); replace HO449 := Aside0.mk (Kd.S_mono (Kd.S_told (Kd.S_told (Kd.S_told (Kd.S_old (sa_ HO449.out) hb) (Kd.S_base ho3)) (Kd.S_base ho6)) (Kd.S_base ho7)) (fun _ h_ => h_.1)); replace BK422 := Aside0.mk (bk_ BK422.out hb); replace HB := Aside0.mk (bs_ HB.out hb); (try clear hb); (try clear ho0); (try clear ho1); (try clear ho2); (try clear ho3); (try clear ho4); (try clear ho5); (try clear ho6); (try clear ho7)) | ((with_reducible refine gate_dst (N := 5) rfl ?_); refine box_event ?hg (N := 5) ?hd (cs := #[.int .i64 0, .int .i64 0, .slice none 0 0, .slice none 0 0, .slice none 0 0, .slice none 0 0, .slice none 0 0, .slice none 0 0, .slice none 0 0, .slice none 0 0, .int .i64 0]) (t := 55) ?hr ?_; (case hd => rfl); (case hg => rfl); (case hr => first | (go_simp; done) | (go_simp; rfl)); intro gb479 hg w31 hbox hb; replace HO428 := Aside0.mk (Kd.R_below (ra_ HO428.out) hb); replace HO431 := Aside0.mk (Kd.R_below (ra_ HO431.out) hb); replace HO434 := Aside0.mk (Kd.R_below (ra_ HO434.out) hb); replace HO437 := Aside0.mk (Kd.S_below (sa_ HO437.out) hb); replace HO440 := Aside0.mk (Kd.R_below (ra_ HO440.out) hb); replace HO443 := Aside0.mk (Kd.R_below (ra_ HO443.out) hb); replace HO446 := Aside0.mk (Kd.S_below (sa_ HO446.out) hb); replace HO449 := Aside0.mk (Kd.S_below (sa_ HO449.out) hb); replace HO456 := Aside0.mk (Kd.R_below (ra_ HO456.out) hb); replace HO459 := Aside0.mk (Kd.R_below (ra_ HO459.out) hb); replace HO462 := Aside0.mk (Kd.R_below (ra_ HO462.out) hb); replace HO465 := Aside0.mk (Kd.S_below (sa_ HO465.out) hb); replace HO468 := Aside0.mk (Kd.R_below (ra_ HO468.out) hb); replace HO471 := Aside0.mk (Kd.R_below (ra_ HO471.out) hb); replace HO474 := Aside0.mk (Kd.S_below (sa_ HO474.out) hb); replace HO477 := Aside0.mk (Kd.S_below (sa_ HO477.out) hb); have BK479 := Aside0.mk (hbox); have GW479 := Aside0.mk ((by rw [hg]; exact (bz_ HB.out) : w.heap.size ≤ gb479)); have GE479 := Aside0.mk ((by rw [hg]; exact (bz_ HB.out) : w.heap.size ≤ gb479)); replace HB := Aside0.mk (bs_ HB.out hb); have NB422_479 := Aside0.mk ((by rw [hg]; exact Nat.ne_of_lt (bl_ BK422.out) : gb422 ≠ gb479)); have NB479_422 := Aside0.mk ((by rw [hg]; exact Nat.ne_of_gt (bl_ BK422.out) : gb479 ≠ gb422)); replace BK422 := Aside0.mk (bk_ BK422.out hb); clear hb hbox hg; have hnb32 := NB479_422.out; have hnc32 := NB422_479.out; obtain ⟨hcz33_0, hcz33_1, hcz33_2, hcz33_3, hcz33_4, hcz33_5, hcz33_6, hcz33_7, hcz33_8, hcz33_9, hcz33_10, hfz33_0, hfz33_1, hfz33_2, hfz33_3, hfz33_4, hfz33_5, hfz33_6, hfz33_7, hfz33_8, hfz33_9, hfz33_10⟩ := cz11_ BK479.out; obtain ⟨Ao34, co34, eo34⟩ := Kd.R_slice HO456.out; subst eo34; obtain ⟨Ao35, co35, eo35⟩ := Kd.R_slice HO459.out; subst eo35; obtain ⟨Ao36, co36, eo36⟩ := Kd.R_slice HO462.out; subst eo36; obtain ⟨Ao37, co37, eo37⟩ := Kd.S_slice HO465.out; subst eo37; obtain ⟨Ao38, co38, eo38⟩ := Kd.R_slice HO468.out; subst eo38; obtain ⟨Ao39, co39, eo39⟩ := Kd.R_slice HO471.out; subst eo39; obtain ⟨Ao40, co40, eo40⟩ := Kd.S_slice HO474.out; subst eo40; obtain ⟨Ao41, co41, eo41⟩ := Kd.S_slice HO477.out; subst eo41) | ((with_reducible refine gate_callee (f := 64) rfl ?_); refine gm_ (some 18) Try.func64 #[.agg #[.int .i64 t452, .int .i64 t453, .slice Ao34 t454.length co34, .slice Ao35 t457.length co35, .slice Ao36 t460.length co36, .slice Ao37 t463.length co37, .slice Ao38 t466.length co38, .slice Ao39 t469.length co39, .slice Ao40 t472.length co40, .slice Ao41 t475.length co41, .int .i64 t478]] rfl ?_; (with_reducible refine (impl_IsIdle.calls k t452 t453 _ _ t454 _ _ t457 _ _ t460 _ _ t463 _ _ t466 _ _ t469 _ _ t472 _ _ t475 t478 t480 _ ?side1 ?side2 ?side3 ?side4 ?side5 ?side6 ?side7 ?side8 ?side9 ?side10 ?side11 ?side12 ?side13 ?side14 ?side15 ?side16 A10.out).mono ?_); (case side1 => refine (Kd.R_reads' (e := 3) (base := w.heap.size) (ok := fun k_ => ((((((some k_ ≠ (.slice Ao35 t457.length co35 : Value).ownBlock ∧ (some k_ ≠ (.slice Ao36 t460.length co36 : Value).ownBlock ∧ (some k_ ≠ (.slice Ao38 t466.length co38 : Value).ownBlock ∧ some k_ ≠ (.slice Ao39 t469.length co39 : Value).ownBlock))) ∧ some k_ ≠ (.slice Ao20 t426.length co20 : Value).ownBlock) ∧ some k_ ≠ (.slice Ao21 t429.length co21 : Value).ownBlock) ∧ some k_ ≠ (.slice Ao22 t432.length co22 : Value).ownBlock) ∧ some k_ ≠ (.slice Ao24 t438.length co24 : Value).ownBlock) ∧ some k_ ≠ (.slice Ao25 t441.length co25 : Value).ownBlock)) (n := t454.length) (c := co34) ?_).2.2; exact (rm_ (Kd.R_types HO456.out BK479.out (by decide)) (fun _ h_ => h_.1))); (case side2 => exact (Kd.R_reads' HO456.out).2.1); (case side3 => refine (Kd.R_reads' (e := 3) (base := w.heap.size) (ok := fun k_ => ((((((some k_ ≠ (.slice Ao34 t454.length co34 : Value).ownBlock ∧ (some k_ ≠ (.slice Ao36 t460.length co36 : Value).ownBlock ∧ (some k_ ≠ (.slice Ao38 t466.length co38 : Value).ownBlock ∧ some k_ ≠ (.slice Ao39 t469.length co39 : Value).ownBlock))) ∧ some k_ ≠ (.slice Ao20 t426.length co20 : Value).ownBlock) ∧ some k_ ≠ (.slice Ao21 t429.length co21 : Value).ownBlock) ∧ some k_ ≠ (.slice Ao22 t432.length co22 : Value).ownBlock) ∧ some k_ ≠ (.slice Ao24 t438.length co24 : Value).ownBlock) ∧ some k_ ≠ (.slice Ao25 t441.length co25 : Value).ownBlock)) (n := t457.length) (c := co35) ?_).2.2; exact (rm_ (Kd.R_types HO459.out BK479.out (by decide)) (fun _ h_ => h_.1))); (case side4 => exact (Kd.R_reads' HO459.out).2.1); (case side5 => refine (Kd.R_reads' (e := 3) (base := w.heap.size) (ok := fun k_ => ((((((some k_ ≠ (.slice Ao34 t454.length co34 : Value).ownBlock ∧ (some k_ ≠ (.slice Ao35 t457.length co35 : Value).ownBlock ∧ (some k_ ≠ (.slice Ao38 t466.length co38 : Value).ownBlock ∧ some k_ ≠ (.slice Ao39 t469.length co39 : Value).ownBlock))) ∧ some k_ ≠ (.slice Ao20 t426.length co20 : Value).ownBlock) ∧ some k_ ≠ (.slice Ao21 t429.length co21 : Value).ownBlock) ∧ some k_ ≠ (.slice Ao22 t432.length co22 : Value).ownBlock) ∧ some k_ ≠ (.slice Ao24 t438.length co24 : Value).ownBlock) ∧ some k_ ≠ (.slice Ao25 t441.length co25 : Value).ownBlock)) (n := t460.length) (c := co36) ?_).2.2; exact (rm_ (Kd.R_types HO462.out BK479.out (by decide)) (fun _ h_ => h_.1))); (case side6 => exact (Kd.R_reads' HO462.out).2.1); (case side7 => refine (Kd.S_reads' (e := 118) (base := w.heap.size) (ok := fun k_ => ((((some k_ ≠ (.slice Ao40 t472.length co40 : Value).ownBlock ∧ some k_ ≠ (.slice Ao41 t475.length co41 : Value).ownBlock) ∧ some k_ ≠ (.slice Ao23 t435.length co23 : Value).ownBlock) ∧ some k_ ≠ (.slice Ao26 t444.length co26 : Value).ownBlock) ∧ some k_ ≠ (.slice Ao27 t447.length co27 : Value).ownBlock)) (n := t463.length) (c := co37) ?_).2.2; exact (sm_ (Kd.S_types HO465.out BK479.out (by decide)) (fun _ h_ => h_.1))); (case side8 => exact (Kd.S_reads' HO465.out).2.1); (case side9 => refine (Kd.R_reads' (e := 3) (base := w.heap.size) (ok := fun k_ => ((((((some k_ ≠ (.slice Ao34 t454.length co34 : Value).ownBlock ∧ (some k_ ≠ (.slice Ao35 t457.length co35 : Value).ownBlock ∧ (some k_ ≠ (.slice Ao36 t460.length co36 : Value).ownBlock ∧ some k_ ≠ (.slice Ao39 t469.length co39 : Value).ownBlock))) ∧ some k_ ≠ (.slice Ao20 t426.length co20 : Value).ownBlock) ∧ some k_ ≠ (.slice Ao21 t429.length co21 : Value).ownBlock) ∧ some k_ ≠ (.slice Ao22 t432.length co22 : Value).ownBlock) ∧ some k_ ≠ (.slice Ao24 t438.length co24 : Value).ownBlock) ∧ some k_ ≠ (.slice Ao25 t441.length co25 : Value).ownBlock)) (n := t466.length) (c := co38) ?_).2.2; exact (rm_ (Kd.R_types HO468.out BK479.out (by decide)) (fun _ h_ => h_.1))); (case side10 => exact (Kd.R_reads' HO468.out).2.1); (case side11 => refine (Kd.R_reads' (e := 3) (base := w.heap.size) (ok := fun k_ => ((((((some k_ ≠ (.slice Ao34 t454.length co34 : Value).ownBlock ∧ (some k_ ≠ (.slice Ao35 t457.length co35 : Value).ownBlock ∧ (some k_ ≠ (.slice Ao36 t460.length co36 : Value).ownBlock ∧ some k_ ≠ (.slice Ao38 t466.length co38 : Value).ownBlock))) ∧ some k_ ≠ (.slice Ao20 t426.length co20 : Value).ownBlock) ∧ some k_ ≠ (.slice Ao21 t429.length co21 : Value).ownBlock) ∧ some k_ ≠ (.slice Ao22 t432.length co22 : Value).ownBlock) ∧ some k_ ≠ (.slice Ao24 t438.length co24 : Value).ownBlock) ∧ some k_ ≠ (.slice Ao25 t441.length co25 : Value).ownBlock)) (n := t469.length) (c := co39) ?_).2.2; exact (rm_ (Kd.R_types HO471.out BK479.out (by decide)) (fun _ h_ => h_.1))); (case side12 => exact (Kd.R_reads' HO471.out).2.1); (case side13 => refine (Kd.S_reads' (e := 118) (base := w.heap.size) (ok := fun k_ => ((((some k_ ≠ (.slice Ao37 t463.length co37 : Value).ownBlock ∧ some k_ ≠ (.slice Ao41 t475.length co41 : Value).ownBlock) ∧ some k_ ≠ (.slice Ao23 t435.length co23 : Value).ownBlock) ∧ some k_ ≠ (.slice Ao26 t444.length co26 : Value).ownBlock) ∧ some k_ ≠ (.slice Ao27 t447.length co27 : Value).ownBlock)) (n := t472.length) (c := co40) ?_).2.2; exact (sm_ (Kd.S_types HO474.out BK479.out (by decide)) (fun _ h_ => h_.1))); (case side14 => exact (Kd.S_reads' HO474.out).2.1); (case side15 => refine (Kd.S_reads' (e := 118) (base := w.heap.size) (ok := fun k_ => ((((some k_ ≠ (.slice Ao37 t463.length co37 : Value).ownBlock ∧ some k_ ≠ (.slice Ao40 t472.length co40 : Value).ownBlock) ∧ some k_ ≠ (.slice Ao23 t435.length co23 : Value).ownBlock) ∧ some k_ ≠ (.slice Ao26 t444.length co26 : Value).ownBlock) ∧ some k_ ≠ (.slice Ao27 t447.length co27 : Value).ownBlock)) (n := t475.length) (c := co41) ?_).2.2; exact (sm_ (Kd.S_types HO477.out BK479.out (by decide)) (fun _ h_ => h_.1))); (case side16 => exact (Kd.S_reads' HO477.out).2.1); rintro e w42 ⟨rfl, hb⟩; refine ⟨_, rfl, ?_⟩; replace HO428 := Aside0.mk (Kd.R_below (rm_ (Kd.R_types HO428.out BK479.out (by decide)) (fun _ h_ => h_.1)) hb); replace HO431 := Aside0.mk (Kd.R_below (rm_ (Kd.R_types HO431.out BK479.out (by decide)) (fun _ h_ => h_.1)) hb); replace HO434 := Aside0.mk (Kd.R_below (rm_ (Kd.R_types HO434.out BK479.out (by decide)) (fun _ h_ => h_.1)) hb); replace HO437 := Aside0.mk (Kd.S_below (sm_ (Kd.S_types HO437.out BK479.out (by decide)) (fun _ h_ => h_.1)) hb); replace HO440 := Aside0.mk (Kd.R_below (rm_ (Kd.R_types HO440.out BK479.out (by decide)) (fun _ h_ => h_.1)) hb); replace HO443 := Aside0.mk (Kd.R_below (rm_ (Kd.R_types HO443.out BK479.out (by decide)) (fun _ h_ => h_.1)) hb); replace HO446 := Aside0.mk (Kd.S_below (sm_ (Kd.S_types HO446.out BK479.out (by decide)) (fun _ h_ => h_.1)) hb); replace HO449 := Aside0.mk (Kd.S_below (sm_ (Kd.S_types HO449.out BK479.out (by decide)) (fun _ h_ => h_.1)) hb); replace HO456 := Aside0.mk (Kd.R_below (rm_ (Kd.R_types HO456.out BK479.out (by decide)) (fun _ h_ => h_.1)) hb); replace HO459 := Aside0.mk (Kd.R_below (rm_ (Kd.R_types HO459.out BK479.out (by decide)) (fun _ h_ => h_.1)) hb); replace HO462 := Aside0.mk (Kd.R_below (rm_ (Kd.R_types HO462.out BK479.out (by decide)) (fun _ h_ => h_.1)) hb); replace HO465 := Aside0.mk (Kd.S_below (sm_ (Kd.S_types HO465.out BK479.out (by decide)) (fun _ h_ => h_.1)) hb); replace HO468 := Aside0.mk (Kd.R_below (rm_ (Kd.R_types HO468.out BK479.out (by decide)) (fun _ h_ => h_.1)) hb); replace HO471 := Aside0.mk (Kd.R_below (rm_ (Kd.R_types HO471.out BK479.out (by decide)) (fun _ h_ => h_.1)) hb); replace HO474 := Aside0.mk (Kd.S_below (sm_ (Kd.S_types HO474.out BK479.out (by decide)) (fun _ h_ => h_.1)) hb); replace HO477 := Aside0.mk (Kd.S_below (sm_ (Kd.S_types HO477.out BK479.out (by decide)) (fun _ h_ => h_.1)) hb); replace BK422 := Aside0.mk (blk_below (bf_ BK422.out) hb); replace BK479 := Aside0.mk (blk_below (g := gb479) (o := .cells #[.int .i64 t452, .int .i64 t453, .slice Ao34 t454.length co34, .slice Ao35 t457.length co35, .slice Ao36 t460.length co36, .slice Ao37 t463.length co37, .slice Ao38 t466.length co38, .slice Ao39 t469.length co39, .slice Ao40 t472.length co40, .slice Ao41 t475.length co41, .int .i64 t478] 55 (0, 0)) (by (with_reducible repeat (first | refine blk_drewN ?_ _ | refine blk_drew ?_ | refine blk_alloc ?_ _)); refine blk_put (cs := #[.int .i64 t452, .int .i64 t453, .slice Ao34 t454.length co34, .slice Ao35 t457.length co35, .slice Ao36 t460.length co36, .slice Ao37 t463.length co37, .slice Ao38 t466.length co38, .slice Ao39 t469.length co39, .slice Ao40 t472.length co40, .slice Ao41 t475.length co41, .int .i64 0]) ?_ 10 _ rfl; (with_reducible repeat (first | refine blk_drewN ?_ _ | refine blk_drew ?_ | refine blk_alloc ?_ _)); refine blk_put (cs := #[.int .i64 t452, .int .i64 t453, .slice Ao34 t454.length co34, .slice Ao35 t457.length co35, .slice Ao36 t460.length co36, .slice Ao37 t463.length co37, .slice Ao38 t466.length co38, .slice Ao39 t469.length co39, .slice Ao40 t472.length co40, .slice none 0 0, .int .i64 0]) ?_ 9 _ rfl; (with_reducible repeat (first | refine blk_drewN ?_ _ | refine blk_drew ?_ | refine blk_alloc ?_ _)); refine blk_put (cs := #[.int .i64 t452, .int .i64 t453, .slice Ao34 t454.length co34, .slice Ao35 t457.length co35, .slice Ao36 t460.length co36, .slice Ao37 t463.length co37, .slice Ao38 t466.length co38, .slice Ao39 t469.length co39, .slice none 0 0, .slice none 0 0, .int .i64 0]) ?_ 8 _ rfl; (with_reducible repeat (first | refine blk_drewN ?_ _ | refine blk_drew ?_ | refine blk_alloc ?_ _)); refine blk_put (cs := #[.int .i64 t452, .int .i64 t453, .slice Ao34 t454.length co34, .slice Ao35 t457.length co35, .slice Ao36 t460.length co36, .slice Ao37 t463.length co37, .slice Ao38 t466.length co38, .slice none 0 0, .slice none 0 0, .slice none 0 0, .int .i64 0]) ?_ 7 _ rfl; (with_reducible repeat (first | refine blk_drewN ?_ _ | refine blk_drew ?_ | refine blk_alloc ?_ _)); refine blk_put (cs := #[.int .i64 t452, .int .i64 t453, .slice Ao34 t454.length co34, .slice Ao35 t457.length co35, .slice Ao36 t460.length co36, .slice Ao37 t463.length co37, .slice none 0 0, .slice none 0 0, .slice none 0 0, .slice none 0 0, .int .i64 0]) ?_ 6 _ rfl; (with_reducible repeat (first | refine blk_drewN ?_ _ | refine blk_drew ?_ | refine blk_alloc ?_ _)); refine blk_put (cs := #[.int .i64 t452, .int .i64 t453, .slice Ao34 t454.length co34, .slice Ao35 t457.length co35, .slice Ao36 t460.length co36, .slice none 0 0, .slice none 0 0, .slice none 0 0, .slice none 0 0, .slice none 0 0, .int .i64 0]) ?_ 5 _ rfl; (with_reducible repeat (first | refine blk_drewN ?_ _ | refine blk_drew ?_ | refine blk_alloc ?_ _)); refine blk_put (cs := #[.int .i64 t452, .int .i64 t453, .slice Ao34 t454.length co34, .slice Ao35 t457.length co35, .slice none 0 0, .slice none 0 0, .slice none 0 0, .slice none 0 0, .slice none 0 0, .slice none 0 0, .int .i64 0]) ?_ 4 _ rfl; (with_reducible repeat (first | refine blk_drewN ?_ _ | refine blk_drew ?_ | refine blk_alloc ?_ _)); refine blk_put (cs := #[.int .i64 t452, .int .i64 t453, .slice Ao34 t454.length co34, .slice none 0 0, .slice none 0 0, .slice none 0 0, .slice none 0 0, .slice none 0 0, .slice none 0 0, .slice none 0 0, .int .i64 0]) ?_ 3 _ rfl; (with_reducible repeat (first | refine blk_drewN ?_ _ | refine blk_drew ?_ | refine blk_alloc ?_ _)); refine blk_put (cs := #[.int .i64 t452, .int .i64 t453, .slice none 0 0, .slice none 0 0, .slice none 0 0, .slice none 0 0, .slice none 0 0, .slice none 0 0, .slice none 0 0, .slice none 0 0, .int .i64 0]) ?_ 2 _ rfl; (with_reducible repeat (first | refine blk_drewN ?_ _ | refine blk_drew ?_ | refine blk_alloc ?_ _)); refine blk_put (cs := #[.int .i64 t452, .int .i64 0, .slice none 0 0, .slice none 0 0, .slice none 0 0, .slice none 0 0, .slice none 0 0, .slice none 0 0, .slice none 0 0, .slice none 0 0, .int .i64 0]) ?_ 1 _ rfl; (with_reducible repeat (first | refine blk_drewN ?_ _ | refine blk_drew ?_ | refine blk_alloc ?_ _)); refine blk_put (cs := #[.int .i64 0, .int .i64 0, .slice none 0 0, .slice none 0 0, .slice none 0 0, .slice none 0 0, .slice none 0 0, .slice none 0 0, .slice none 0 0, .slice none 0 0, .int .i64 0]) ?_ 0 _ rfl; (with_reducible repeat (first | refine blk_drewN ?_ _ | refine blk_drew ?_ | refine blk_alloc ?_ _)); exact BK479.out) hb); replace HB := Aside0.mk (bs_ HB.out hb); (try clear hb)))
    have n0_ := Aside0.mk (Kd.R_drew HO428.out)
    have n1_ := Aside0.mk (Kd.R_drew HO431.out)
    have n2_ := Aside0.mk (Kd.R_drew HO434.out)
    have n3_ := Aside0.mk (Kd.S_drew HO437.out)
    have n4_ := Aside0.mk (Kd.R_drew HO440.out)
    have n5_ := Aside0.mk (Kd.R_drew HO443.out)
    have n6_ := Aside0.mk (Kd.S_drew HO446.out)
    have n7_ := Aside0.mk (Kd.S_drew HO449.out)
    have n8_ := Aside0.mk (Kd.R_drew HO456.out)
    have n9_ := Aside0.mk (Kd.R_drew HO459.out)
    have n10_ := Aside0.mk (Kd.R_drew HO462.out)
    have n11_ := Aside0.mk (Kd.S_drew HO465.out)
    have n12_ := Aside0.mk (Kd.R_drew HO468.out)
    have n13_ := Aside0.mk (Kd.R_drew HO471.out)
    have n14_ := Aside0.mk (Kd.S_drew HO474.out)
    have n15_ := Aside0.mk (Kd.S_drew HO477.out)
    have n16_ := Aside0.mk (blk_drew BK422.out)
    have n17_ := Aside0.mk (blk_drew BK479.out)
    have n18_ := Aside0.mk (below_drew1 HB.out)
    clear HO428
    clear HO431
    clear HO434
    clear HO437
    clear HO440
    clear HO443
    clear HO446
    clear HO449
    clear HO456
    clear HO459
    clear HO462
    clear HO465
    clear HO468
    clear HO471
    clear HO474
    clear HO477
    clear BK422
    clear BK479
    clear HB
    have HO428 := n0_
    have HO431 := n1_
    have HO434 := n2_
    have HO437 := n3_
    have HO440 := n4_
    have HO443 := n5_
    have HO446 := n6_
    have HO449 := n7_
    have HO456 := n8_
    have HO459 := n9_
    have HO462 := n10_
    have HO465 := n11_
    have HO468 := n12_
    have HO471 := n13_
    have HO474 := n14_
    have HO477 := n15_
    have BK422 := n16_
    have BK479 := n17_
    have HB := n18_
    clear n0_ n1_ n2_ n3_ n4_ n5_ n6_ n7_ n8_ n9_ n10_ n11_ n12_ n13_ n14_ n15_ n16_ n17_ n18_
    refine start_ (n := 5) (S := fun w' => w'.cell? ⟨gb479, 0, none⟩ = some (.int .i64 t452) ∧ w'.cell? ⟨gb479, 1, none⟩ = some (.int .i64 t453) ∧ w'.cell? ⟨gb479, 2, none⟩ = some (.slice Ao34 t454.length co34) ∧ w'.cell? ⟨gb479, 3, none⟩ = some (.slice Ao35 t457.length co35) ∧ w'.cell? ⟨gb479, 4, none⟩ = some (.slice Ao36 t460.length co36) ∧ w'.cell? ⟨gb479, 5, none⟩ = some (.slice Ao37 t463.length co37) ∧ w'.cell? ⟨gb479, 6, none⟩ = some (.slice Ao38 t466.length co38) ∧ w'.cell? ⟨gb479, 7, none⟩ = some (.slice Ao39 t469.length co39) ∧ w'.cell? ⟨gb479, 8, none⟩ = some (.slice Ao40 t472.length co40) ∧ w'.cell? ⟨gb479, 9, none⟩ = some (.slice Ao41 t475.length co41) ∧ w'.cell? ⟨gb479, 10, none⟩ = some (.int .i64 t478) ∧ w'.cell? ⟨gb422, 0, none⟩ = some (.int .i64 a0_0) ∧ w'.cell? ⟨gb422, 1, none⟩ = some (.int .i64 a0_1) ∧ w'.cell? ⟨gb422, 2, none⟩ = some (.slice A0_2 l0_2.length c0_2) ∧ w'.cell? ⟨gb422, 3, none⟩ = some (.slice A0_3 l0_3.length c0_3) ∧ w'.cell? ⟨gb422, 4, none⟩ = some (.slice A0_4 l0_4.length c0_4) ∧ w'.cell? ⟨gb422, 5, none⟩ = some (.slice A0_5 l0_5.length c0_5) ∧ w'.cell? ⟨gb422, 6, none⟩ = some (.slice A0_6 l0_6.length c0_6) ∧ w'.cell? ⟨gb422, 7, none⟩ = some (.slice A0_7 l0_7.length c0_7) ∧ w'.cell? ⟨gb422, 8, none⟩ = some (.slice A0_8 l0_8.length c0_8) ∧ w'.cell? ⟨gb422, 9, none⟩ = some (.slice A0_9 l0_9.length c0_9) ∧ w'.cell? ⟨gb422, 10, none⟩ = some (.int .i64 a0_10)) (ds := []) #[false, false, false, false, false] (by kernel_rfl) rfl rfl ⟨(blk_cell BK479.out 0).trans rfl, (blk_cell BK479.out 1).trans rfl, (blk_cell BK479.out 2).trans rfl, (blk_cell BK479.out 3).trans rfl, (blk_cell BK479.out 4).trans rfl, (blk_cell BK479.out 5).trans rfl, (blk_cell BK479.out 6).trans rfl, (blk_cell BK479.out 7).trans rfl, (blk_cell BK479.out 8).trans rfl, (blk_cell BK479.out 9).trans rfl, (blk_cell BK479.out 10).trans rfl, (blk_cell BK422.out 0).trans rfl, (blk_cell BK422.out 1).trans rfl, (blk_cell BK422.out 2).trans rfl, (blk_cell BK422.out 3).trans rfl, (blk_cell BK422.out 4).trans rfl, (blk_cell BK422.out 5).trans rfl, (blk_cell BK422.out 6).trans rfl, (blk_cell BK422.out 7).trans rfl, (blk_cell BK422.out 8).trans rfl, (blk_cell BK422.out 9).trans rfl, (blk_cell BK422.out 10).trans rfl⟩ (fun hHeld => ?_)
    generalize w42.drew = w43 at HO428 HO431 HO434 HO437 HO440 HO443 HO446 HO449 HO456 HO459 HO462 HO465 HO468 HO471 HO474 HO477 BK422 BK479 HB hHeld ⊢
    refine take_ (i := 0) (N := some 22) (v := ?_) (a' := ?_) (bt_ 5 1) rfl rfl (by kernel_rfl) (fun _ _ _ h => h) (Or.inl ⟨by rfl, ?_⟩) hHeld ?_ ?_
    rotate_left
    ·rintro w' ⟨s0, s1, s2, s3, s4, s5, s6, s7, s8, s9, s10, s11, s12, s13, s14, s15, s16, s17, s18, s19, s20, s21⟩
     go_simp
     with_reducible rfl
    rotate_left
    ·simp only [Act.put, List.setIfInBounds_toArray, List.set_cons_zero, List.set_cons_succ, i64_w, i32_w]
     rfl
    refine take_ (i := 1) (N := some 23) (v := ?_) (a' := ?_) (bt_ 5 3) rfl rfl (by kernel_rfl) (fun _ _ _ h => h) (Or.inl ⟨by rfl, ?_⟩) hHeld ?_ ?_
    rotate_left
    ·rintro w' ⟨s0, s1, s2, s3, s4, s5, s6, s7, s8, s9, s10, s11, s12, s13, s14, s15, s16, s17, s18, s19, s20, s21⟩
     go_simp
     with_reducible rfl
    rotate_left
    ·simp only [Act.put, List.setIfInBounds_toArray, List.set_cons_zero, List.set_cons_succ, i64_w, i32_w]
     rfl
    refine one_ (i := 2) (N := some 24) (bt_ 5 7) rfl rfl (by kernel_rfl) (by decide) (fun K hK => ?_)
    refine goes_ Try.func50 (by kernel_rfl) rfl #[.agg #[.int .i64 a0_0, .int .i64 a0_1, .slice A0_2 l0_2.length c0_2, .slice A0_3 l0_3.length c0_3, .slice A0_4 l0_4.length c0_4, .slice A0_5 l0_5.length c0_5, .slice A0_6 l0_6.length c0_6, .slice A0_7 l0_7.length c0_7, .slice A0_8 l0_8.length c0_8, .slice A0_9 l0_9.length c0_9, .int .i64 a0_10]] (by rfl) rfl rfl (by (try simp only [List.map_toArray, List.map_cons, List.map_nil]); first | done | rfl | (simp only [List.length_drop, List.length_take]; rfl)) ?_
    with_reducible refine (laws_toNet.calls k a0_0 a0_1 _ _ l0_2 _ _ l0_3 _ _ l0_4 _ _ l0_5 _ _ l0_6 _ _ l0_7 _ _ l0_8 _ _ l0_9 a0_10 t481 t482 t483 t486 t489 t492 t495 t498 t501 t504 t507 _ ?side1 ?side2 ?side3 ?side4 ?side5 ?side6 ?side7 ?side8 ?side9 ?side10 ?side11 ?side12 ?side13 ?side14 ?side15 ?side16 A12.out).mono ?_
    (case side1 => exact cb_ HR0_2.out HB.out)
    (case side2 => exact HC0_2.out)
    (case side3 => exact cb_ HR0_3.out HB.out)
    (case side4 => exact HC0_3.out)
    (case side5 => exact cb_ HR0_4.out HB.out)
    (case side6 => exact HC0_4.out)
    (case side7 => exact cb_ HR0_5.out HB.out)
    (case side8 => exact HC0_5.out)
    (case side9 => exact cb_ HR0_6.out HB.out)
    (case side10 => exact HC0_6.out)
    (case side11 => exact cb_ HR0_7.out HB.out)
    (case side12 => exact HC0_7.out)
    (case side13 => exact cb_ HR0_8.out HB.out)
    (case side14 => exact HC0_8.out)
    (case side15 => exact cb_ HR0_9.out HB.out)
    (case side16 => exact HC0_9.out)
    rintro e w44 ⟨v484, v487, v490, v493, v496, v499, v502, v505, rfl, ho0, ho1, ho2, ho3, ho4, ho5, ho6, ho7, hb⟩
    refine ⟨_, rfl, ?_⟩
    have n0_ := Aside0.mk (Kd.R_mono (Kd.R_told (Kd.R_told (Kd.R_told (Kd.R_told (Kd.R_told (Kd.R_old (ra_ HO428.out) hb) (Kd.R_base ho0)) (Kd.R_base ho1)) (Kd.R_base ho2)) (Kd.R_base ho4)) (Kd.R_base ho5)) (fun _ h_ => h_.1))
    have n1_ := Aside0.mk (Kd.R_mono (Kd.R_told (Kd.R_told (Kd.R_told (Kd.R_told (Kd.R_told (Kd.R_old (ra_ HO431.out) hb) (Kd.R_base ho0)) (Kd.R_base ho1)) (Kd.R_base ho2)) (Kd.R_base ho4)) (Kd.R_base ho5)) (fun _ h_ => h_.1))
    have n2_ := Aside0.mk (Kd.R_mono (Kd.R_told (Kd.R_told (Kd.R_told (Kd.R_told (Kd.R_told (Kd.R_old (ra_ HO434.out) hb) (Kd.R_base ho0)) (Kd.R_base ho1)) (Kd.R_base ho2)) (Kd.R_base ho4)) (Kd.R_base ho5)) (fun _ h_ => h_.1))
    have n3_ := Aside0.mk (Kd.S_mono (Kd.S_told (Kd.S_told (Kd.S_told (Kd.S_old (sa_ HO437.out) hb) (Kd.S_base ho3)) (Kd.S_base ho6)) (Kd.S_base ho7)) (fun _ h_ => h_.1))
    have n4_ := Aside0.mk (Kd.R_mono (Kd.R_told (Kd.R_told (Kd.R_told (Kd.R_told (Kd.R_told (Kd.R_old (ra_ HO440.out) hb) (Kd.R_base ho0)) (Kd.R_base ho1)) (Kd.R_base ho2)) (Kd.R_base ho4)) (Kd.R_base ho5)) (fun _ h_ => h_.1))
    have n5_ := Aside0.mk (Kd.R_mono (Kd.R_told (Kd.R_told (Kd.R_told (Kd.R_told (Kd.R_told (Kd.R_old (ra_ HO443.out) hb) (Kd.R_base ho0)) (Kd.R_base ho1)) (Kd.R_base ho2)) (Kd.R_base ho4)) (Kd.R_base ho5)) (fun _ h_ => h_.1))
    have n6_ := Aside0.mk (Kd.S_mono (Kd.S_told (Kd.S_told (Kd.S_told (Kd.S_old (sa_ HO446.out) hb) (Kd.S_base ho3)) (Kd.S_base ho6)) (Kd.S_base ho7)) (fun _ h_ => h_.1))
    have n7_ := Aside0.mk (Kd.S_mono (Kd.S_told (Kd.S_told (Kd.S_told (Kd.S_old (sa_ HO449.out) hb) (Kd.S_base ho3)) (Kd.S_base ho6)) (Kd.S_base ho7)) (fun _ h_ => h_.1))
    have n8_ := Aside0.mk (Kd.R_mono (Kd.R_told (Kd.R_told (Kd.R_told (Kd.R_told (Kd.R_told (Kd.R_old (ra_ HO456.out) hb) (Kd.R_base ho0)) (Kd.R_base ho1)) (Kd.R_base ho2)) (Kd.R_base ho4)) (Kd.R_base ho5)) (fun _ h_ => h_.1))
    have n9_ := Aside0.mk (Kd.R_mono (Kd.R_told (Kd.R_told (Kd.R_told (Kd.R_told (Kd.R_told (Kd.R_old (ra_ HO459.out) hb) (Kd.R_base ho0)) (Kd.R_base ho1)) (Kd.R_base ho2)) (Kd.R_base ho4)) (Kd.R_base ho5)) (fun _ h_ => h_.1))
    have n10_ := Aside0.mk (Kd.R_mono (Kd.R_told (Kd.R_told (Kd.R_told (Kd.R_told (Kd.R_told (Kd.R_old (ra_ HO462.out) hb) (Kd.R_base ho0)) (Kd.R_base ho1)) (Kd.R_base ho2)) (Kd.R_base ho4)) (Kd.R_base ho5)) (fun _ h_ => h_.1))
    have n11_ := Aside0.mk (Kd.S_mono (Kd.S_told (Kd.S_told (Kd.S_told (Kd.S_old (sa_ HO465.out) hb) (Kd.S_base ho3)) (Kd.S_base ho6)) (Kd.S_base ho7)) (fun _ h_ => h_.1))
    have n12_ := Aside0.mk (Kd.R_mono (Kd.R_told (Kd.R_told (Kd.R_told (Kd.R_told (Kd.R_told (Kd.R_old (ra_ HO468.out) hb) (Kd.R_base ho0)) (Kd.R_base ho1)) (Kd.R_base ho2)) (Kd.R_base ho4)) (Kd.R_base ho5)) (fun _ h_ => h_.1))
    have n13_ := Aside0.mk (Kd.R_mono (Kd.R_told (Kd.R_told (Kd.R_told (Kd.R_told (Kd.R_told (Kd.R_old (ra_ HO471.out) hb) (Kd.R_base ho0)) (Kd.R_base ho1)) (Kd.R_base ho2)) (Kd.R_base ho4)) (Kd.R_base ho5)) (fun _ h_ => h_.1))
    have n14_ := Aside0.mk (Kd.S_mono (Kd.S_told (Kd.S_told (Kd.S_told (Kd.S_old (sa_ HO474.out) hb) (Kd.S_base ho3)) (Kd.S_base ho6)) (Kd.S_base ho7)) (fun _ h_ => h_.1))
    have n15_ := Aside0.mk (Kd.S_mono (Kd.S_told (Kd.S_told (Kd.S_told (Kd.S_old (sa_ HO477.out) hb) (Kd.S_base ho3)) (Kd.S_base ho6)) (Kd.S_base ho7)) (fun _ h_ => h_.1))
    have n16_ := Aside0.mk (Kd.R_lower (Kd.R_new' (Kd.R_new' (Kd.R_new' (Kd.R_new' (Kd.R_new' (Kd.R_new' (Kd.R_new' (Kd.R_new' (Kd.R_new' (Kd.R_new' ho0 (rl_ HO428.out)) (rl_ HO431.out)) (rl_ HO434.out)) (rl_ HO440.out)) (rl_ HO443.out)) (rl_ HO456.out)) (rl_ HO459.out)) (rl_ HO462.out)) (rl_ HO468.out)) (rl_ HO471.out)) (bz_ HB.out))
    have n17_ := Aside0.mk (Kd.R_lower (Kd.R_new' (Kd.R_new' (Kd.R_new' (Kd.R_new' (Kd.R_new' (Kd.R_new' (Kd.R_new' (Kd.R_new' (Kd.R_new' (Kd.R_new' ho1 (rl_ HO428.out)) (rl_ HO431.out)) (rl_ HO434.out)) (rl_ HO440.out)) (rl_ HO443.out)) (rl_ HO456.out)) (rl_ HO459.out)) (rl_ HO462.out)) (rl_ HO468.out)) (rl_ HO471.out)) (bz_ HB.out))
    have n18_ := Aside0.mk (Kd.R_lower (Kd.R_new' (Kd.R_new' (Kd.R_new' (Kd.R_new' (Kd.R_new' (Kd.R_new' (Kd.R_new' (Kd.R_new' (Kd.R_new' (Kd.R_new' ho2 (rl_ HO428.out)) (rl_ HO431.out)) (rl_ HO434.out)) (rl_ HO440.out)) (rl_ HO443.out)) (rl_ HO456.out)) (rl_ HO459.out)) (rl_ HO462.out)) (rl_ HO468.out)) (rl_ HO471.out)) (bz_ HB.out))
    have n19_ := Aside0.mk (Kd.S_lower (Kd.S_new' (Kd.S_new' (Kd.S_new' (Kd.S_new' (Kd.S_new' (Kd.S_new' ho3 (sl_ HO437.out)) (sl_ HO446.out)) (sl_ HO449.out)) (sl_ HO465.out)) (sl_ HO474.out)) (sl_ HO477.out)) (bz_ HB.out))
    have n20_ := Aside0.mk (Kd.R_lower (Kd.R_new' (Kd.R_new' (Kd.R_new' (Kd.R_new' (Kd.R_new' (Kd.R_new' (Kd.R_new' (Kd.R_new' (Kd.R_new' (Kd.R_new' ho4 (rl_ HO428.out)) (rl_ HO431.out)) (rl_ HO434.out)) (rl_ HO440.out)) (rl_ HO443.out)) (rl_ HO456.out)) (rl_ HO459.out)) (rl_ HO462.out)) (rl_ HO468.out)) (rl_ HO471.out)) (bz_ HB.out))
    have n21_ := Aside0.mk (Kd.R_lower (Kd.R_new' (Kd.R_new' (Kd.R_new' (Kd.R_new' (Kd.R_new' (Kd.R_new' (Kd.R_new' (Kd.R_new' (Kd.R_new' (Kd.R_new' ho5 (rl_ HO428.out)) (rl_ HO431.out)) (rl_ HO434.out)) (rl_ HO440.out)) (rl_ HO443.out)) (rl_ HO456.out)) (rl_ HO459.out)) (rl_ HO462.out)) (rl_ HO468.out)) (rl_ HO471.out)) (bz_ HB.out))
    have n22_ := Aside0.mk (Kd.S_lower (Kd.S_new' (Kd.S_new' (Kd.S_new' (Kd.S_new' (Kd.S_new' (Kd.S_new' ho6 (sl_ HO437.out)) (sl_ HO446.out)) (sl_ HO449.out)) (sl_ HO465.out)) (sl_ HO474.out)) (sl_ HO477.out)) (bz_ HB.out))
    have n23_ := Aside0.mk (Kd.S_lower (Kd.S_new' (Kd.S_new' (Kd.S_new' (Kd.S_new' (Kd.S_new' (Kd.S_new' ho7 (sl_ HO437.out)) (sl_ HO446.out)) (sl_ HO449.out)) (sl_ HO465.out)) (sl_ HO474.out)) (sl_ HO477.out)) (bz_ HB.out))
    have n24_ := Aside0.mk (bk_ BK422.out hb)
    have n25_ := Aside0.mk (bk_ BK479.out hb)
    have n26_ := Aside0.mk (bs_ HB.out hb)
    clear HO428
    clear HO431
    clear HO434
    clear HO437
    clear HO440
    clear HO443
    clear HO446
    clear HO449
    clear HO456
    clear HO459
    clear HO462
    clear HO465
    clear HO468
    clear HO471
    clear HO474
    clear HO477
    clear BK422
    clear BK479
    clear HB
    have HO428 := n0_
    have HO431 := n1_
    have HO434 := n2_
    have HO437 := n3_
    have HO440 := n4_
    have HO443 := n5_
    have HO446 := n6_
    have HO449 := n7_
    have HO456 := n8_
    have HO459 := n9_
    have HO462 := n10_
    have HO465 := n11_
    have HO468 := n12_
    have HO471 := n13_
    have HO474 := n14_
    have HO477 := n15_
    have HO485 := n16_
    have HO488 := n17_
    have HO491 := n18_
    have HO494 := n19_
    have HO497 := n20_
    have HO500 := n21_
    have HO503 := n22_
    have HO506 := n23_
    have BK422 := n24_
    have BK479 := n25_
    have HB := n26_
    clear n0_ n1_ n2_ n3_ n4_ n5_ n6_ n7_ n8_ n9_ n10_ n11_ n12_ n13_ n14_ n15_ n16_ n17_ n18_ n19_ n20_ n21_ n22_ n23_ n24_ n25_ n26_
    (try clear hb)
    (try clear hb2)
    (try clear hk)
    (try clear hi)
    (try clear ho0)
    (try clear ho1)
    (try clear ho2)
    (try clear ho3)
    (try clear ho4)
    (try clear ho5)
    (try clear ho6)
    (try clear ho7)
    obtain ⟨Ao45, co45, eo45⟩ := Kd.R_slice HO485.out
    (first | subst eo45 | (injection eo45 with f1_ f2_ f3_; have f4_ := f1_.symm; have f5_ := f3_.symm; clear f1_ f2_ f3_; subst f4_; subst f5_))
    obtain ⟨Ao46, co46, eo46⟩ := Kd.R_slice HO488.out
    (first | subst eo46 | (injection eo46 with f1_ f2_ f3_; have f4_ := f1_.symm; have f5_ := f3_.symm; clear f1_ f2_ f3_; subst f4_; subst f5_))
    obtain ⟨Ao47, co47, eo47⟩ := Kd.R_slice HO491.out
    (first | subst eo47 | (injection eo47 with f1_ f2_ f3_; have f4_ := f1_.symm; have f5_ := f3_.symm; clear f1_ f2_ f3_; subst f4_; subst f5_))
    obtain ⟨Ao48, co48, eo48⟩ := Kd.S_slice HO494.out
    (first | subst eo48 | (injection eo48 with f1_ f2_ f3_; have f4_ := f1_.symm; have f5_ := f3_.symm; clear f1_ f2_ f3_; subst f4_; subst f5_))
    obtain ⟨Ao49, co49, eo49⟩ := Kd.R_slice HO497.out
    (first | subst eo49 | (injection eo49 with f1_ f2_ f3_; have f4_ := f1_.symm; have f5_ := f3_.symm; clear f1_ f2_ f3_; subst f4_; subst f5_))
    obtain ⟨Ao50, co50, eo50⟩ := Kd.R_slice HO500.out
    (first | subst eo50 | (injection eo50 with f1_ f2_ f3_; have f4_ := f1_.symm; have f5_ := f3_.symm; clear f1_ f2_ f3_; subst f4_; subst f5_))
    obtain ⟨Ao51, co51, eo51⟩ := Kd.S_slice HO503.out
    (first | subst eo51 | (injection eo51 with f1_ f2_ f3_; have f4_ := f1_.symm; have f5_ := f3_.symm; clear f1_ f2_ f3_; subst f4_; subst f5_))
    obtain ⟨Ao52, co52, eo52⟩ := Kd.S_slice HO506.out
    (first | subst eo52 | (injection eo52 with f1_ f2_ f3_; have f4_ := f1_.symm; have f5_ := f3_.symm; clear f1_ f2_ f3_; subst f4_; subst f5_))
    refine hK.out _ _ ⟨(blk_cell BK479.out 0).trans rfl, (blk_cell BK479.out 1).trans rfl, (blk_cell BK479.out 2).trans rfl, (blk_cell BK479.out 3).trans rfl, (blk_cell BK479.out 4).trans rfl, (blk_cell BK479.out 5).trans rfl, (blk_cell BK479.out 6).trans rfl, (blk_cell BK479.out 7).trans rfl, (blk_cell BK479.out 8).trans rfl, (blk_cell BK479.out 9).trans rfl, (blk_cell BK479.out 10).trans rfl, (blk_cell BK422.out 0).trans rfl, (blk_cell BK422.out 1).trans rfl, (blk_cell BK422.out 2).trans rfl, (blk_cell BK422.out 3).trans rfl, (blk_cell BK422.out 4).trans rfl, (blk_cell BK422.out 5).trans rfl, (blk_cell BK422.out 6).trans rfl, (blk_cell BK422.out 7).trans rfl, (blk_cell BK422.out 8).trans rfl, (blk_cell BK422.out 9).trans rfl, (blk_cell BK422.out 10).trans rfl⟩ (fun hHeld => ?_)
    clear hK K
    refine norm_ (a' := ?_) ?_ ?_
    rotate_left
    ·show Act.put _ (some 24) _ = _
     simp only [Act.put, List.setIfInBounds_toArray, List.set_cons_zero, List.set_cons_succ, i64_w, i32_w]
     rfl
    refine one_ (i := 3) (N := some 25) (bt_ 5 15) rfl rfl (by kernel_rfl) (by decide) (fun K hK => ?_)
    refine goes_ Try.func52 (by kernel_rfl) rfl #[.agg #[.int .i64 t452, .int .i64 t453, .slice Ao34 t454.length co34, .slice Ao35 t457.length co35, .slice Ao36 t460.length co36, .slice Ao37 t463.length co37, .slice Ao38 t466.length co38, .slice Ao39 t469.length co39, .slice Ao40 t472.length co40, .slice Ao41 t475.length co41, .int .i64 t478], .agg #[.int .i64 t481, .int .i64 t482, .slice Ao45 t483.length co45, .slice Ao46 t486.length co46, .slice Ao47 t489.length co47, .slice Ao48 t492.length co48, .slice Ao49 t495.length co49, .slice Ao50 t498.length co50, .slice Ao51 t501.length co51, .slice Ao52 t504.length co52, .int .i64 t507]] (by rfl) rfl rfl (by (try simp only [List.map_toArray, List.map_cons, List.map_nil]); first | done | rfl | (simp only [List.length_drop, List.length_take]; rfl)) ?_
    with_reducible refine (laws_eqNet.calls k t452 t453 _ _ t454 _ _ t457 _ _ t460 _ _ t463 _ _ t466 _ _ t469 _ _ t472 _ _ t475 t478 t481 t482 _ _ t483 _ _ t486 _ _ t489 _ _ t492 _ _ t495 _ _ t498 _ _ t501 _ _ t504 t507 true _ ?side1 ?side2 ?side3 ?side4 ?side5 ?side6 ?side7 ?side8 ?side9 ?side10 ?side11 ?side12 ?side13 ?side14 ?side15 ?side16 ?side17 ?side18 ?side19 ?side20 ?side21 ?side22 ?side23 ?side24 ?side25 ?side26 ?side27 ?side28 ?side29 ?side30 ?side31 ?side32 A13.out).mono ?_
    (case side1 => repeat (first | exact (Kd.R_reads' HO456.out).2.2 | (with_reducible refine Kd.C_alloc ?_ _) | (with_reducible refine Kd.C_drewN ?_ _) | (with_reducible refine Kd.C_drew ?_)))
    (case side2 => exact (Kd.R_reads' HO456.out).2.1)
    (case side3 => repeat (first | exact (Kd.R_reads' HO459.out).2.2 | (with_reducible refine Kd.C_alloc ?_ _) | (with_reducible refine Kd.C_drewN ?_ _) | (with_reducible refine Kd.C_drew ?_)))
    (case side4 => exact (Kd.R_reads' HO459.out).2.1)
    (case side5 => repeat (first | exact (Kd.R_reads' HO462.out).2.2 | (with_reducible refine Kd.C_alloc ?_ _) | (with_reducible refine Kd.C_drewN ?_ _) | (with_reducible refine Kd.C_drew ?_)))
    (case side6 => exact (Kd.R_reads' HO462.out).2.1)
    (case side7 => repeat (first | exact (Kd.S_reads' HO465.out).2.2 | (with_reducible refine Kd.C_alloc ?_ _) | (with_reducible refine Kd.C_drewN ?_ _) | (with_reducible refine Kd.C_drew ?_)))
    (case side8 => exact (Kd.S_reads' HO465.out).2.1)
    (case side9 => repeat (first | exact (Kd.R_reads' HO468.out).2.2 | (with_reducible refine Kd.C_alloc ?_ _) | (with_reducible refine Kd.C_drewN ?_ _) | (with_reducible refine Kd.C_drew ?_)))
    (case side10 => exact (Kd.R_reads' HO468.out).2.1)
    (case side11 => repeat (first | exact (Kd.R_reads' HO471.out).2.2 | (with_reducible refine Kd.C_alloc ?_ _) | (with_reducible refine Kd.C_drewN ?_ _) | (with_reducible refine Kd.C_drew ?_)))
    (case side12 => exact (Kd.R_reads' HO471.out).2.1)
    (case side13 => repeat (first | exact (Kd.S_reads' HO474.out).2.2 | (with_reducible refine Kd.C_alloc ?_ _) | (with_reducible refine Kd.C_drewN ?_ _) | (with_reducible refine Kd.C_drew ?_)))
    (case side14 => exact (Kd.S_reads' HO474.out).2.1)
    (case side15 => repeat (first | exact (Kd.S_reads' HO477.out).2.2 | (with_reducible refine Kd.C_alloc ?_ _) | (with_reducible refine Kd.C_drewN ?_ _) | (with_reducible refine Kd.C_drew ?_)))
    (case side16 => exact (Kd.S_reads' HO477.out).2.1)
    (case side17 => repeat (first | exact (Kd.R_reads' HO485.out).2.2 | (with_reducible refine Kd.C_alloc ?_ _) | (with_reducible refine Kd.C_drewN ?_ _) | (with_reducible refine Kd.C_drew ?_)))
    (case side18 => exact (Kd.R_reads' HO485.out).2.1)
    (case side19 => repeat (first | exact (Kd.R_reads' HO488.out).2.2 | (with_reducible refine Kd.C_alloc ?_ _) | (with_reducible refine Kd.C_drewN ?_ _) | (with_reducible refine Kd.C_drew ?_)))
    (case side20 => exact (Kd.R_reads' HO488.out).2.1)
    (case side21 => repeat (first | exact (Kd.R_reads' HO491.out).2.2 | (with_reducible refine Kd.C_alloc ?_ _) | (with_reducible refine Kd.C_drewN ?_ _) | (with_reducible refine Kd.C_drew ?_)))
    (case side22 => exact (Kd.R_reads' HO491.out).2.1)
    (case side23 => repeat (first | exact (Kd.S_reads' HO494.out).2.2 | (with_reducible refine Kd.C_alloc ?_ _) | (with_reducible refine Kd.C_drewN ?_ _) | (with_reducible refine Kd.C_drew ?_)))
    (case side24 => exact (Kd.S_reads' HO494.out).2.1)
    (case side25 => repeat (first | exact (Kd.R_reads' HO497.out).2.2 | (with_reducible refine Kd.C_alloc ?_ _) | (with_reducible refine Kd.C_drewN ?_ _) | (with_reducible refine Kd.C_drew ?_)))
    (case side26 => exact (Kd.R_reads' HO497.out).2.1)
    (case side27 => repeat (first | exact (Kd.R_reads' HO500.out).2.2 | (with_reducible refine Kd.C_alloc ?_ _) | (with_reducible refine Kd.C_drewN ?_ _) | (with_reducible refine Kd.C_drew ?_)))
    (case side28 => exact (Kd.R_reads' HO500.out).2.1)
    (case side29 => repeat (first | exact (Kd.S_reads' HO503.out).2.2 | (with_reducible refine Kd.C_alloc ?_ _) | (with_reducible refine Kd.C_drewN ?_ _) | (with_reducible refine Kd.C_drew ?_)))
    (case side30 => exact (Kd.S_reads' HO503.out).2.1)
    (case side31 => repeat (first | exact (Kd.S_reads' HO506.out).2.2 | (with_reducible refine Kd.C_alloc ?_ _) | (with_reducible refine Kd.C_drewN ?_ _) | (with_reducible refine Kd.C_drew ?_)))
    (case side32 => exact (Kd.S_reads' HO506.out).2.1)
    rintro e w53 ⟨rfl, hb⟩
    refine ⟨_, rfl, ?_⟩
    have n0_ := Aside0.mk (Kd.R_below (ra_ HO428.out) hb)
    have n1_ := Aside0.mk (Kd.R_below (ra_ HO431.out) hb)
    have n2_ := Aside0.mk (Kd.R_below (ra_ HO434.out) hb)
    have n3_ := Aside0.mk (Kd.S_below (sa_ HO437.out) hb)
    have n4_ := Aside0.mk (Kd.R_below (ra_ HO440.out) hb)
    have n5_ := Aside0.mk (Kd.R_below (ra_ HO443.out) hb)
    have n6_ := Aside0.mk (Kd.S_below (sa_ HO446.out) hb)
    have n7_ := Aside0.mk (Kd.S_below (sa_ HO449.out) hb)
    have n8_ := Aside0.mk (Kd.R_below (ra_ HO456.out) hb)
    have n9_ := Aside0.mk (Kd.R_below (ra_ HO459.out) hb)
    have n10_ := Aside0.mk (Kd.R_below (ra_ HO462.out) hb)
    have n11_ := Aside0.mk (Kd.S_below (sa_ HO465.out) hb)
    have n12_ := Aside0.mk (Kd.R_below (ra_ HO468.out) hb)
    have n13_ := Aside0.mk (Kd.R_below (ra_ HO471.out) hb)
    have n14_ := Aside0.mk (Kd.S_below (sa_ HO474.out) hb)
    have n15_ := Aside0.mk (Kd.S_below (sa_ HO477.out) hb)
    have n16_ := Aside0.mk (Kd.R_below (ra_ HO485.out) hb)
    have n17_ := Aside0.mk (Kd.R_below (ra_ HO488.out) hb)
    have n18_ := Aside0.mk (Kd.R_below (ra_ HO491.out) hb)
    have n19_ := Aside0.mk (Kd.S_below (sa_ HO494.out) hb)
    have n20_ := Aside0.mk (Kd.R_below (ra_ HO497.out) hb)
    have n21_ := Aside0.mk (Kd.R_below (ra_ HO500.out) hb)
    have n22_ := Aside0.mk (Kd.S_below (sa_ HO503.out) hb)
    have n23_ := Aside0.mk (Kd.S_below (sa_ HO506.out) hb)
    have n24_ := Aside0.mk (bk_ BK422.out hb)
    have n25_ := Aside0.mk (bk_ BK479.out hb)
    have n26_ := Aside0.mk (bs_ HB.out hb)
    clear HO428
    clear HO431
    clear HO434
    clear HO437
    clear HO440
    clear HO443
    clear HO446
    clear HO449
    clear HO456
    clear HO459
    clear HO462
    clear HO465
    clear HO468
    clear HO471
    clear HO474
    clear HO477
    clear HO485
    clear HO488
    clear HO491
    clear HO494
    clear HO497
    clear HO500
    clear HO503
    clear HO506
    clear BK422
    clear BK479
    clear HB
    have HO428 := n0_
    have HO431 := n1_
    have HO434 := n2_
    have HO437 := n3_
    have HO440 := n4_
    have HO443 := n5_
    have HO446 := n6_
    have HO449 := n7_
    have HO456 := n8_
    have HO459 := n9_
    have HO462 := n10_
    have HO465 := n11_
    have HO468 := n12_
    have HO471 := n13_
    have HO474 := n14_
    have HO477 := n15_
    have HO485 := n16_
    have HO488 := n17_
    have HO491 := n18_
    have HO494 := n19_
    have HO497 := n20_
    have HO500 := n21_
    have HO503 := n22_
    have HO506 := n23_
    have BK422 := n24_
    have BK479 := n25_
    have HB := n26_
    clear n0_ n1_ n2_ n3_ n4_ n5_ n6_ n7_ n8_ n9_ n10_ n11_ n12_ n13_ n14_ n15_ n16_ n17_ n18_ n19_ n20_ n21_ n22_ n23_ n24_ n25_ n26_
    (try clear hb)
    (try clear hb2)
    (try clear hk)
    (try clear hi)
    refine hK.out _ _ ⟨(blk_cell BK479.out 0).trans rfl, (blk_cell BK479.out 1).trans rfl, (blk_cell BK479.out 2).trans rfl, (blk_cell BK479.out 3).trans rfl, (blk_cell BK479.out 4).trans rfl, (blk_cell BK479.out 5).trans rfl, (blk_cell BK479.out 6).trans rfl, (blk_cell BK479.out 7).trans rfl, (blk_cell BK479.out 8).trans rfl, (blk_cell BK479.out 9).trans rfl, (blk_cell BK479.out 10).trans rfl, (blk_cell BK422.out 0).trans rfl, (blk_cell BK422.out 1).trans rfl, (blk_cell BK422.out 2).trans rfl, (blk_cell BK422.out 3).trans rfl, (blk_cell BK422.out 4).trans rfl, (blk_cell BK422.out 5).trans rfl, (blk_cell BK422.out 6).trans rfl, (blk_cell BK422.out 7).trans rfl, (blk_cell BK422.out 8).trans rfl, (blk_cell BK422.out 9).trans rfl, (blk_cell BK422.out 10).trans rfl⟩ (fun hHeld => ?_)
    clear hK K
    refine norm_ (a' := ?_) ?_ ?_
    rotate_left
    ·show Act.put _ (some 25) _ = _
     simp only [Act.put, List.setIfInBounds_toArray, List.set_cons_zero, List.set_cons_succ, i64_w, i32_w]
     rfl
    refine pure_ (i := 4) (N := some 26) (v := ?_) (a' := ?_) (bt_ 5 31) rfl rfl (by kernel_rfl) (fun _ _ _ h => h) (Or.inl ⟨by rfl, ?_⟩) ?_ ?_
    rotate_left
    ·intro w'
     go_simp
     with_reducible rfl
    rotate_left
    ·simp only [Act.put, List.setIfInBounds_toArray, List.set_cons_zero, List.set_cons_succ, i64_w, i32_w]
     rfl
    refine done_ (by kernel_rfl) ?_
    try go_wp2
    go_ret
    exact ⟨fin_, bb_ HB.out⟩
   ·replace c14 := Bool.eq_false_iff.mpr c14
    subst c14
    rw [if_neg (show ¬ (false = true) by decide)] at H
    exact absurd H (by simp)

end Go.Proofs.Ytogapggfegplkaa.PFnExactIsIdle
-- thin
