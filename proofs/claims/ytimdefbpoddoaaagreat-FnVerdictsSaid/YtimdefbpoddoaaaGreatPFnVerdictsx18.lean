/- The law's functions as plain functions, and their calls. No condition. -/
import Derived.Test.YtimdefbpoddoaaaGreatPFnVerdictsx0
import Derived.Test.YtimdefbpoddoaaaGreatPFnVerdictsx2
import Derived.Test.YtimdefbpoddoaaaGreatPFnVerdictsx3
import Derived.Test.YtimdefbpoddoaaaGreatPFnVerdictsx17
namespace Go.Proofs.YtimdefbpoddoaaaGreat.PFnVerdicts
open Go.RowKit Go.Proofs.YtimdefbpoddoaaaGreatW.PrintWords Go.Proofs.YtimdefbpoddoaaaGreatW.PrintLast Go.Proofs.YtimdefbpoddoaaaGreatW.PrintMore
attribute [local go_sem] max2_int min2_int max_two min_two max_three min_three max_four min_four
set_option linter.unusedVariables false
set_option maxHeartbeats 8000000
set_option maxRecDepth 100000
set_option linter.unusedSimpArgs false

/-! ### spec_l04Sized: function 79 -/
def spec_l04Sized.f (k : Nat) (a0_0 : Int) (a0_1 : Int) (l0_2 : List Int) (l1_0 : List Int) : Option (Bool) := (spec_NodeCount.f a0_0 a0_1).bind fun t483 => ((spec_MeshOk.f k a0_0 a0_1 l0_2).bind fun t484 => (if t484 = true then (some ((l1_0.length : Int) == (wrap64 (t483 * t483)))) else (some false)))
theorem spec_l04Sized.mono : ∀ a0 a1 a2 a3 k, LeO (spec_l04Sized.f k a0 a1 a2 a3) (spec_l04Sized.f (k + 1) a0 a1 a2 a3) := by
 intro a0 a1 a2 a3 k
 unfold spec_l04Sized.f
 repeat' (with_reducible first | exact spec_MeshOk.mono .. | exact LeO.refl .. | exact LeO.none .. | refine LeO.ite ?_ ?_ | refine LeO.bind ?_ (fun _ => ?_))
theorem spec_l04Sized.e0 {P : Prop} (h : P := by
 go_enter Tryz.func79, Tryz.ntmps79
 go_wp2_with (first | ((with_reducible refine gate_dst (N := 2) rfl ?_); (try (refine gate_guard (by rfl) ?_; dsimp only)); refine box_event ?hg (N := 2) ?hd (cs := #[.int .i64 a0_0, .int .i64 a0_1, .slice A0_2 l0_2.length c0_2]) (t := 38) ?hr ?_; (case hd => rfl); (case hg => rfl); (case hr => first | (go_simp; done) | (go_simp; rfl)); intro gb481 hg w_0 hbox hb; have BK481 := Aside0.mk (hbox); have GW481 := gw_ hg HB; have GE481 := gw_ hg HB; replace HB := hs_ HB hb; clear hb hbox hg) | ((with_reducible refine gate_dst (N := 3) rfl ?_); (try (refine gate_guard (by rfl) ?_; dsimp only)); refine box_event ?hg (N := 3) ?hd (cs := #[.slice A1_0 l1_0.length c1_0]) (t := 40) ?hr ?_; (case hd => rfl); (case hg => rfl); (case hr => first | (go_simp; done) | (go_simp; rfl)); intro gb482 hg w_0 hbox hb; have BK482 := Aside0.mk (hbox); have GW482 := gw_ hg HB; have GE482 := gw_ hg HB; replace HB := hs_ HB hb; have NB481_482 := nl_ hg BK481; have NB482_481 := ng_ hg BK481; replace BK481 := kb_ BK481 hb; clear hb hbox hg; have hnb_ := NB481_482.out; have hnc_ := NB482_481.out; obtain ⟨hcz_0, hcz_1, hcz_2, hfz_0, hfz_1, hfz_2⟩ := cz3_ BK481.out) | ((with_reducible refine gate_callee (f := 80) rfl ?_); refine gm_ (some 8) Tryz.func80 #[.agg #[.int .i64 a0_0, .int .i64 a0_1]] rfl ?_; (with_reducible refine (spec_NodeCount.calls a0_0 a0_1 t483 _ A3.out).mono ?_); rintro e w_0 ⟨rfl, hb⟩; refine ⟨_, rfl, ?_⟩; replace BK481 := kb_ BK481 hb; replace BK482 := kb_ BK482 hb; replace HB := hs_ HB hb; (try clear hb); obtain ⟨hcz_0, hcz_1, hcz_2, hfz_0, hfz_1, hfz_2⟩ := cz3_ BK481.out) | ((with_reducible refine gate_callee (f := 111) rfl ?_); refine gm_ (some 10) Tryz.func111 #[.agg #[.int .i64 a0_0, .int .i64 a0_1, .slice A0_2 l0_2.length c0_2]] rfl ?_; (with_reducible refine (spec_MeshOk.calls k a0_0 a0_1 _ _ l0_2 _ _ ?side1 HC0_2.out A4.out).mono ?_); (case side1 => exact cb_ HR0_2.out HB.out); rintro e w_0 ⟨rfl, hb⟩; refine ⟨_, rfl, ?_⟩; replace BK481 := kb_ BK481 hb; replace BK482 := kb_ BK482 hb; replace HB := hs_ HB hb; (try clear hb); obtain ⟨hcz_0, hfz_0⟩ := cz1_ BK482.out))
 go_ret
 exact ⟨fin_, bb_ HB.out⟩) : P := h
theorem spec_l04Sized.calls (k : Nat) (a0_0 : Int) (a0_1 : Int) (A0_2 : Option Addr) (c0_2 : Nat) (l0_2 : List Int) (A1_0 : Option Addr) (c1_0 : Nat) (l1_0 : List Int) (r : Bool) (w : World) (hr0_2 : Kd.C (Kd.int .i64) w A0_2 l0_2.length l0_2) (hc0_2 : l0_2.length ≤ c0_2) (hr1_0 : Kd.C (Kd.int .i64) w A1_0 l1_0.length l1_0) (hc1_0 : l1_0.length ≤ c1_0) (h : spec_l04Sized.f k a0_0 a0_1 l0_2 l1_0 = some r) :
  Calls Tryz.prog 79 #[.agg #[.int .i64 a0_0, .int .i64 a0_1, .slice A0_2 l0_2.length c0_2], .agg #[.slice A1_0 l1_0.length c1_0]] w fun e w' => e = .returned (.bool r) ∧ Below w.heap.size w w' := by
 have hu38 := Tryz.underlying38
 have hu40 := Tryz.underlying40
 have hu36 := Tryz.underlying36
 have HR0_2 := Aside0.mk hr0_2
 have HC0_2 := Aside0.mk hc0_2
 clear hr0_2 hc0_2
 have HR1_0 := Aside0.mk hr1_0
 have HC1_0 := Aside0.mk hc1_0
 clear hr1_0 hc1_0
 have HB := Aside0.mk (Below.refl w.heap.size w)
 have H : ((spec_NodeCount.f a0_0 a0_1).bind fun t483 => ((spec_MeshOk.f k a0_0 a0_1 l0_2).bind fun t484 => (if t484 = true then (some ((l1_0.length : Int) == (wrap64 (t483 * t483)))) else (some false)))) = some r := h
 clear h
 obtain ⟨t483, A3, H⟩ := bi_ H
 obtain ⟨t484, A4, H⟩ := bi_ H
 by_cases c5 : t484 = true
 ·subst c5
  rw [if_pos rfl] at H
  obtain rfl := Option.some.inj H
  exact spec_l04Sized.e0
 ·replace c5 := Bool.eq_false_iff.mpr c5
  subst c5
  rw [if_neg (show ¬ (false = true) by decide)] at H
  obtain rfl := Option.some.inj H
  exact spec_l04Sized.e0

/-! ### spec_l03Find: function 83 -/
def spec_l03Find.l0 : Nat → List Int → Int → Int → Option (Bool)
 | 0, _, _, _ => none
 | k + 1, x0, x1, x5 => if x5 < (x0.length : Int) then (if 0 ≤ x5 then (if (rd x0 x5) = x1 then (some true) else (spec_l03Find.l0 k x0 x1 (wrap64 (x5 + 1)))) else (none)) else (some false)
def spec_l03Find.f (k : Nat) (l0 : List Int) (a1 : Int) : Option (Bool) := spec_l03Find.l0 k l0 a1 0
theorem spec_l03Find.mono_l : ∀ k, (∀ y0 y1 y2, LeO (spec_l03Find.l0 k y0 y1 y2) (spec_l03Find.l0 (k + 1) y0 y1 y2))
 | 0 => fun _ _ _ r h => by simp [spec_l03Find.l0] at h
 | k + 1 => by
  have ih0 := spec_l03Find.mono_l k
  ·intro y0 y1 y2
   unfold spec_l03Find.l0
   repeat' (with_reducible first | exact ih0 .. | exact LeO.refl .. | exact LeO.none .. | refine LeO.ite ?_ ?_ | refine LeO.bind ?_ (fun _ => ?_))
theorem spec_l03Find.mono : ∀ a0 a1 k, LeO (spec_l03Find.f k a0 a1) (spec_l03Find.f (k + 1) a0 a1) := by
 intro a0 a1 k
 have ih0 := spec_l03Find.mono_l k
 unfold spec_l03Find.f
 repeat' (with_reducible first | exact ih0 .. | exact LeO.refl .. | exact LeO.none .. | refine LeO.ite ?_ ?_ | refine LeO.bind ?_ (fun _ => ?_))
theorem spec_l03Find.calls (k : Nat) (A0 : Option Addr) (c0 : Nat) (l0 : List Int) (a1 : Int) (r : Bool) (w : World) (hr0 : Kd.C (Kd.int .i64) w A0 l0.length l0) (hc0 : l0.length ≤ c0) (h : spec_l03Find.f k l0 a1 = some r) :
  Calls Tryz.prog 83 #[.slice A0 l0.length c0, .int .i64 a1] w fun e w' => e = .returned (.bool r) ∧ Drawn0 w w' := by
 have HR0 := Aside0.mk hr0
 have HC0 := Aside0.mk hc0
 clear hr0 hc0
 have H : (spec_l03Find.l0 k l0 a1 0) = some r := h
 clear h
 have H' := Aside0.mk H
 clear H
 go_enter Tryz.func83, Tryz.ntmps83
 go_wp2
 go_loopg [5] k (fun kq v5 w' => ∃ (x5_1 : Int), v5 = .int .i64 x5_1 ∧ Aside0 (spec_l03Find.l0 kq l0 a1 x5_1 = some r) ∧ Aside0 (kq ≤ k) ∧ Drawn0 w w')
 case atStart => exact ⟨(0), ef_, H', ⟨Nat.le_refl _⟩, by repeat (first | exact Drawn0.refl _ | apply Drawn0.step)⟩
 clear H'
 obtain ⟨x5_1, rfl, HA, HK1, ⟨m1, rfl⟩⟩ := hrel
 obtain _ | k1 := gk
 ·exact absurd HA.out (by simp [spec_l03Find.l0])
 have H := HA.out
 clear HA
 simp only [spec_l03Find.l0] at H
 by_cases c3 : x5_1 < (l0.length : Int)
 rotate_left
 ·rw [if_neg c3] at H
  have c3b0 : decide (x5_1 < (l0.length : Int)) = false := decide_eq_false c3
  clear c3
  obtain rfl := Option.some.inj H
  go_wp2
  go_ret
  exact ⟨by first | rfl | (simp; done) | (simp [*]; done), by repeat (first | exact Drawn0.refl _ | apply Drawn0.step)⟩
 rw [if_pos c3] at H
 have c3b0 : decide (x5_1 < (l0.length : Int)) = true := decide_eq_true c3
 clear c3
 by_cases c4 : 0 ≤ x5_1
 rotate_left
 ·rw [if_neg c4] at H
  exact absurd H (by simp)
 rw [if_pos c4] at H
 have c4b0 : decide (0 ≤ x5_1) = true := decide_eq_true c4
 clear c4
 by_cases c5 : (rd l0 x5_1) = a1
 ·rw [if_pos c5] at H
  have c5b0 : ((rd l0 x5_1) == a1) = true := beq_iff_eq.mpr c5
  have c5b1 : ((rd l0 x5_1) != a1) = false := bne_eq_false_iff_eq.mpr c5
  clear c5
  obtain rfl := Option.some.inj H
  have p485 : 0 ≤ (x5_1 : Int) := of_decide_eq_true dg_
  have q485 : x5_1 < (l0.length : Int) := of_decide_eq_true dg_
  obtain ⟨ad485, e485, hx485_0⟩ := Kd.at_int HR0.out x5_1 p485 q485
  cases e485
  replace p485 := eq_true p485
  replace q485 := eq_true q485
  go_wp2
  go_ret
  exact ⟨by first | rfl | (simp; done) | (simp [*]; done), by repeat (first | exact Drawn0.refl _ | apply Drawn0.step)⟩
 rw [if_neg c5] at H
 have c5b0 : ((rd l0 x5_1) == a1) = false := beq_eq_false_iff_ne.mpr c5
 have c5b1 : ((rd l0 x5_1) != a1) = true := bne_iff_ne.mpr c5
 have H' := Aside0.mk H
 clear H
 have p485 : 0 ≤ (x5_1 : Int) := of_decide_eq_true dg_
 have q485 : x5_1 < (l0.length : Int) := of_decide_eq_true dg_
 obtain ⟨ad485, e485, hx485_0⟩ := Kd.at_int HR0.out x5_1 p485 q485
 cases e485
 replace p485 := eq_true p485
 replace q485 := eq_true q485
 go_wp2
 go_roundg k1
 case measure => have := HK1.out; omega
 case rel => exact ⟨(wrap64 (x5_1 + 1)), ef_, H', ⟨by have := HK1.out; omega⟩, by repeat (first | exact Drawn0.refl _ | apply Drawn0.step)⟩

/-! ### spec_l03Has: function 113 -/
def spec_l03Has.f (k : Nat) (a0_0 : Int) (a0_1 : Int) (l0_2 : List Int) (a1 : Int) : Option (Bool) := (spec_l03Leads.f a0_0 a0_1 a1).bind fun t487 => (if t487 = true then ((spec_l03Find.f k l0_2 a1).bind fun t488 => (some (!t488))) else (some false))
theorem spec_l03Has.mono : ∀ a0 a1 a2 a3 k, LeO (spec_l03Has.f k a0 a1 a2 a3) (spec_l03Has.f (k + 1) a0 a1 a2 a3) := by
 intro a0 a1 a2 a3 k
 unfold spec_l03Has.f
 repeat' (with_reducible first | exact spec_l03Find.mono .. | exact LeO.refl .. | exact LeO.none .. | refine LeO.ite ?_ ?_ | refine LeO.bind ?_ (fun _ => ?_))
theorem spec_l03Has.e0 {P : Prop} (h : P := by
 go_enter Tryz.func113, Tryz.ntmps113
 go_wp2_with (first | ((with_reducible refine gate_dst (N := 2) rfl ?_); refine box_event ?hg (N := 2) ?hd (cs := #[.int .i64 a0_0, .int .i64 a0_1, .slice A0_2 l0_2.length c0_2]) (t := 38) ?hr ?_; (case hd => rfl); (case hg => rfl); (case hr => first | (go_simp; done) | (go_simp; rfl)); intro gb486 hg w_0 hbox hb; have BK486 := Aside0.mk (hbox); have GW486 := gw_ hg HB; have GE486 := gw_ hg HB; replace HB := hs_ HB hb; clear hb hbox hg; obtain ⟨hcz_0, hcz_1, hcz_2, hfz_0, hfz_1, hfz_2⟩ := cz3_ BK486.out) | ((with_reducible refine gate_callee (f := 124) rfl ?_); refine gm_ (some 8) Tryz.func124 #[.agg #[.int .i64 a0_0, .int .i64 a0_1], .int .i64 a1] rfl ?_; (with_reducible refine (spec_l03Leads.calls a0_0 a0_1 a1 _ _ A3.out).mono ?_); rintro e w_0 ⟨rfl, hb⟩; refine ⟨_, rfl, ?_⟩; replace BK486 := kb_ BK486 hb; replace HB := hs_ HB hb; (try clear hb); obtain ⟨hcz_0, hcz_1, hcz_2, hfz_0, hfz_1, hfz_2⟩ := cz3_ BK486.out) | (go_at_call 83; (with_reducible refine (spec_l03Find.calls k _ _ l0_2 a1 t488 _ ?side1 HC0_2.out A5.out).mono ?_); (case side1 => exact cb_ HR0_2.out HB.out); rintro e w' ⟨rfl, ⟨nd, rfl⟩⟩))
 go_ret
 exact ⟨fin_, bb_ HB.out⟩) : P := h
theorem spec_l03Has.calls (k : Nat) (a0_0 : Int) (a0_1 : Int) (A0_2 : Option Addr) (c0_2 : Nat) (l0_2 : List Int) (a1 : Int) (r : Bool) (w : World) (hr0_2 : Kd.C (Kd.int .i64) w A0_2 l0_2.length l0_2) (hc0_2 : l0_2.length ≤ c0_2) (h : spec_l03Has.f k a0_0 a0_1 l0_2 a1 = some r) :
  Calls Tryz.prog 113 #[.agg #[.int .i64 a0_0, .int .i64 a0_1, .slice A0_2 l0_2.length c0_2], .int .i64 a1] w fun e w' => e = .returned (.bool r) ∧ Below w.heap.size w w' := by
 have hu38 := Tryz.underlying38
 have hu36 := Tryz.underlying36
 have HR0_2 := Aside0.mk hr0_2
 have HC0_2 := Aside0.mk hc0_2
 clear hr0_2 hc0_2
 have HB := Aside0.mk (Below.refl w.heap.size w)
 have H : ((spec_l03Leads.f a0_0 a0_1 a1).bind fun t487 => (if t487 = true then ((spec_l03Find.f k l0_2 a1).bind fun t488 => (some (!t488))) else (some false))) = some r := h
 clear h
 obtain ⟨t487, A3, H⟩ := bi_ H
 by_cases c4 : t487 = true
 ·subst c4
  rw [if_pos rfl] at H
  obtain ⟨t488, A5, H⟩ := bi_ H
  obtain rfl := Option.some.inj H
  exact spec_l03Has.e0
 ·replace c4 := Bool.eq_false_iff.mpr c4
  subst c4
  rw [if_neg (show ¬ (false = true) by decide)] at H
  obtain rfl := Option.some.inj H
  exact spec_l03Has.e0

/-! ### spec_l04Walk: function 81 -/
def spec_l04Walk.l0 : Nat → Int → List Int → Int → Int → Int → Int → List Int → List Int → Option (List Int)
 | 0, _, _, _, _, _, _, _, _ => none
 | k + 1, x3, x9, x10, x11, x490000, x490001, x490002, x491000 => if (x9.length : Int) ≤ x10 then (if 0 ≤ (wrap64 ((wrap64 (x11 * x10)) + x3)) then (if (wrap64 ((wrap64 (x11 * x10)) + x3)) < (x491000.length : Int) then (if (rd x491000 (wrap64 ((wrap64 (x11 * x10)) + x3))) = 4 then (if x11 = x3 then (some x9) else (some (([] : List Int)))) else ((spec_l01In.f (rd x491000 (wrap64 ((wrap64 (x11 * x10)) + x3))) 0 3).bind fun t502 => (if t502 = true then ((spec_l03Has.f k x490000 x490001 x490002 (wrap64 ((wrap64 (4 * x11)) + (rd x491000 (wrap64 ((wrap64 (x11 * x10)) + x3)))))).bind fun t503 => (if t503 = true then (if x9.length < 17592186044416 then ((spec_NextNode.f x490000 x490001 x11 (rd x491000 (wrap64 ((wrap64 (x11 * x10)) + x3)))).bind fun t507 => (spec_l04Walk.l0 k x3 (x9 ++ [wrap64 ((wrap64 (4 * x11)) + (rd x491000 (wrap64 ((wrap64 (x11 * x10)) + x3))))]) x10 t507 x490000 x490001 x490002 x491000)) else (none)) else (some (([] : List Int))))) else (some (([] : List Int)))))) else (none)) else (none)) else (some (([] : List Int)))
def spec_l04Walk.f (k : Nat) (a0_0 : Int) (a0_1 : Int) (l0_2 : List Int) (l1_0 : List Int) (a2 : Int) (a3 : Int) : Option (List Int) := (spec_NodeCount.f a0_0 a0_1).bind fun t494 => (spec_l04Walk.l0 k a3 (([] : List Int)) t494 a2 a0_0 a0_1 l0_2 l1_0)
theorem spec_l04Walk.mono_l : ∀ k, (∀ y0 y1 y2 y3 y4 y5 y6 y7, LeO (spec_l04Walk.l0 k y0 y1 y2 y3 y4 y5 y6 y7) (spec_l04Walk.l0 (k + 1) y0 y1 y2 y3 y4 y5 y6 y7))
 | 0 => fun _ _ _ _ _ _ _ _ r h => by simp [spec_l04Walk.l0] at h
 | k + 1 => by
  have ih0 := spec_l04Walk.mono_l k
  ·intro y0 y1 y2 y3 y4 y5 y6 y7
   unfold spec_l04Walk.l0
   repeat' (with_reducible first | exact ih0 .. | exact spec_l03Has.mono .. | exact LeO.refl .. | exact LeO.none .. | refine LeO.ite ?_ ?_ | refine LeO.bind ?_ (fun _ => ?_))
theorem spec_l04Walk.mono : ∀ a0 a1 a2 a3 a4 a5 k, LeO (spec_l04Walk.f k a0 a1 a2 a3 a4 a5) (spec_l04Walk.f (k + 1) a0 a1 a2 a3 a4 a5) := by
 intro a0 a1 a2 a3 a4 a5 k
 have ih0 := spec_l04Walk.mono_l k
 unfold spec_l04Walk.f
 repeat' (with_reducible first | exact ih0 .. | exact spec_l03Has.mono .. | exact LeO.refl .. | exact LeO.none .. | refine LeO.ite ?_ ?_ | refine LeO.bind ?_ (fun _ => ?_))
theorem spec_l04Walk.calls (k : Nat) (a0_0 : Int) (a0_1 : Int) (A0_2 : Option Addr) (c0_2 : Nat) (l0_2 : List Int) (A1_0 : Option Addr) (c1_0 : Nat) (l1_0 : List Int) (a2 : Int) (a3 : Int) (r : List Int) (w : World) (hr0_2 : Kd.C (Kd.int .i64) w A0_2 l0_2.length l0_2) (hc0_2 : l0_2.length ≤ c0_2) (hr1_0 : Kd.C (Kd.int .i64) w A1_0 l1_0.length l1_0) (hc1_0 : l1_0.length ≤ c1_0) (h : spec_l04Walk.f k a0_0 a0_1 l0_2 l1_0 a2 a3 = some r) :
  Calls Tryz.prog 81 #[.agg #[.int .i64 a0_0, .int .i64 a0_1, .slice A0_2 l0_2.length c0_2], .agg #[.slice A1_0 l1_0.length c1_0], .int .i64 a2, .int .i64 a3] w fun e w' => ∃ v0_ : Value, e = .returned (v0_) ∧ Kd.R (Kd.int .i64) 3 w' w.heap.size (fun _ => True) v0_ r ∧ Below w.heap.size w w' := by
 have hu38 := Tryz.underlying38
 have hu40 := Tryz.underlying40
 have hu36 := Tryz.underlying36
 have HR0_2 := Aside0.mk hr0_2
 have HC0_2 := Aside0.mk hc0_2
 clear hr0_2 hc0_2
 have HR1_0 := Aside0.mk hr1_0
 have HC1_0 := Aside0.mk hc1_0
 clear hr1_0 hc1_0
 have HB := Aside0.mk (Below.refl w.heap.size w)
 have H : ((spec_NodeCount.f a0_0 a0_1).bind fun t494 => (spec_l04Walk.l0 k a3 (([] : List Int)) t494 a2 a0_0 a0_1 l0_2 l1_0)) = some r := h
 clear h
 obtain ⟨y491, hy491⟩ : ∃ y_ : List Int, y_ = (([] : List Int)) := ⟨_, rfl⟩
 replace H : ((spec_NodeCount.f a0_0 a0_1).bind fun t494 => (spec_l04Walk.l0 k a3 y491 t494 a2 a0_0 a0_1 l0_2 l1_0)) = some r := by first | (rw [hy491]; with_reducible exact H) | (have H2_ := (Option.bind_some _ _).symm.trans H; rw [hy491]; with_reducible exact H2_) | (have H2_ := (Option.bind_some _ _).symm.trans H; with_reducible exact H2_) | with_reducible exact H | (rw [hy491]; exact H) | exact H
 have Ny491 := Aside0.mk hy491
 clear hy491
 obtain ⟨t494, A5, H⟩ := bi_ H
 have H' := Aside0.mk H
 clear H
 go_enter Tryz.func81, Tryz.ntmps81
 go_wp2_with (first | ((with_reducible refine gate_dst (N := 4) rfl ?_); refine box_event ?hg (N := 4) ?hd (cs := #[.int .i64 a0_0, .int .i64 a0_1, .slice A0_2 l0_2.length c0_2]) (t := 38) ?hr ?_; (case hd => rfl); (case hg => rfl); (case hr => first | (go_simp; done) | (go_simp; rfl)); intro gb489 hg w6 hbox hb; have BK489 := Aside0.mk (hbox); have GW489 := gw_ hg HB; have GE489 := gw_ hg HB; replace HB := hs_ HB hb; clear hb hbox hg) | ((with_reducible refine gate_dst (N := 5) rfl ?_); refine box_event ?hg (N := 5) ?hd (cs := #[.slice A1_0 l1_0.length c1_0]) (t := 40) ?hr ?_; (case hd => rfl); (case hg => rfl); (case hr => first | (go_simp; done) | (go_simp; rfl)); intro gb490 hg w7 hbox hb; have BK490 := Aside0.mk (hbox); have GW490 := gw_ hg HB; have GE490 := gw_ hg HB; replace HB := hs_ HB hb; have NB489_490 := nl_ hg BK489; have NB490_489 := ng_ hg BK489; replace BK489 := kb_ BK489 hb; clear hb hbox hg) | ((with_reducible refine gate_dst (N := 13) rfl ?_); refine Kd.R_lit (Kd.int .i64) _ 3 ?hg (N := 13) ?hd (xs := ([] : List Int)) (inner := []) (ok := fun _ => True) (okp := fun _ => True) ?hr ?hp (fun _ hk => hk) trivial (Below.refl _ _) (Nat.le_refl _) (by simp) ?_; (case hd => rfl); (case hg => rfl); (case hr => first | (go_simp; done) | (go_simp; rfl)); (case hp => exact (Reps.none _ _)); intro v492 w8 ho9 hb hg_ hnew_; clear hg_ hnew_; (first | rw [← Ny491.out] at ho9 | (simp only [Int.reduceToNat] at ho9; rw [← Ny491.out] at ho9)); have HO493 := Aside0.mk (Kd.R_lower ho9 (bz_ HB.out)); replace BK489 := kb_ BK489 hb; replace BK490 := kb_ BK490 hb; replace HB := hs_ HB hb; clear hb ho9; have hnb10 := NB489_490.out; have hnc10 := NB490_489.out; obtain ⟨hcz11_0, hcz11_1, hcz11_2, hfz11_0, hfz11_1, hfz11_2⟩ := cz3_ BK489.out) | ((with_reducible refine gate_callee (f := 80) rfl ?_); refine gm_ (some 16) Tryz.func80 #[.agg #[.int .i64 a0_0, .int .i64 a0_1]] rfl ?_; (with_reducible refine (spec_NodeCount.calls a0_0 a0_1 t494 _ A5.out).mono ?_); rintro e w12 ⟨rfl, hb⟩; refine ⟨_, rfl, ?_⟩; replace HO493 := rb_ HO493 hb; replace BK489 := kb_ BK489 hb; replace BK490 := kb_ BK490 hb; replace HB := hs_ HB hb; (try clear hb)))
 go_loopg [9, 11] k (fun kq v9 v11 w' => ∃ (x9_1 : List Int) (x11_1 : Int), v11 = .int .i64 x11_1 ∧ Aside0 (spec_l04Walk.l0 kq a3 x9_1 t494 x11_1 a0_0 a0_1 l0_2 l1_0 = some r) ∧ Aside0 (kq ≤ k) ∧ Aside0 (Kd.R (Kd.int .i64) 3 w' w.heap.size (fun _ => True) v9 x9_1) ∧ Aside0 (w'.heap[gb489]? = some (.cells #[.int .i64 a0_0, .int .i64 a0_1, (.slice A0_2 l0_2.length c0_2)] 38 (0, 0))) ∧ Aside0 (w'.heap[gb490]? = some (.cells #[(.slice A1_0 l1_0.length c1_0)] 40 (0, 0))) ∧ Aside0 (Below w.heap.size w w'))
 case atStart => exact ⟨(y491), (a2), ef_, H', ⟨Nat.le_refl _⟩, ⟨ra_ HO493.out⟩, ⟨bq_ BK489.out⟩, ⟨bq_ BK490.out⟩, ⟨bb_ HB.out⟩⟩
 clear H'
 try clear hcz11_0 hcz11_1 hcz11_2 hfz11_0 hfz11_1 hfz11_2
 obtain ⟨x9_1, x11_1, rfl, HA, HK1, HO_9, BK489, BK490, HB⟩ := hrel
 obtain _ | k1 := gk
 ·exact absurd HA.out (by simp [spec_l04Walk.l0])
 have H := HA.out
 clear HA
 simp only [spec_l04Walk.l0] at H
 by_cases c13 : (x9_1.length : Int) ≤ t494
 rotate_left
 ·rw [if_neg c13] at H
  have c13b0 : decide ((x9_1.length : Int) ≤ t494) = false := decide_eq_false c13
  clear c13
  obtain ⟨y495, hy495⟩ : ∃ y_ : List Int, y_ = (([] : List Int)) := ⟨_, rfl⟩
  replace H : (some y495) = some r := by first | (rw [hy495]; with_reducible exact H) | (have H2_ := (Option.bind_some _ _).symm.trans H; rw [hy495]; with_reducible exact H2_) | (have H2_ := (Option.bind_some _ _).symm.trans H; with_reducible exact H2_) | with_reducible exact H | (rw [hy495]; exact H) | exact H
  have Ny495 := Aside0.mk hy495
  clear hy495
  obtain rfl := Option.some.inj H
  obtain ⟨Ao53, co53, eo53⟩ := Kd.R_slice HO_9.out
  subst eo53
  go_wp2_with (first | ((with_reducible refine gate_dst (N := 63) rfl ?_); refine Kd.R_lit (Kd.int .i64) _ 3 ?hg (N := 63) ?hd (xs := ([] : List Int)) (inner := []) (ok := fun _ => True) (okp := fun _ => True) ?hr ?hp (fun _ hk => hk) trivial (Below.refl _ _) (Nat.le_refl _) (by simp) ?_; (case hd => rfl); (case hg => rfl); (case hr => first | (go_simp; done) | (go_simp; rfl)); (case hp => exact (Reps.none _ _)); intro v496 w54 ho55 hb hg_ hnew_; clear hg_ hnew_; (first | rw [← Ny495.out] at ho55 | (simp only [Int.reduceToNat] at ho55; rw [← Ny495.out] at ho55)); have HO497 := Aside0.mk (Kd.R_lower (Kd.R_new' ho55 (rl_ HO_9.out)) (bz_ HB.out)); replace HO_9 := re_ HO_9 ho55 hb; replace BK489 := kb_ BK489 hb; replace BK490 := kb_ BK490 hb; replace HB := hs_ HB hb; clear hb ho55))
  go_ret
  exact ⟨_, fin_, by (with_reducible repeat (first | apply Kd.R_alloc | apply Kd.R_drewN | apply Kd.R_drew)); exact Kd.R_mono HO497.out (fun _ hk => trivial), bb_ HB.out⟩
 rw [if_pos c13] at H
 have c13b0 : decide ((x9_1.length : Int) ≤ t494) = true := decide_eq_true c13
 clear c13
 obtain ⟨ji14, hji14⟩ : ∃ j_ : Int, (wrap64 ((wrap64 (x11_1 * t494)) + a3)) = j_ := ⟨_, rfl⟩
 replace H : (if 0 ≤ (ji14) then (if (ji14) < (l1_0.length : Int) then (if (rd l1_0 (ji14)) = 4 then (if x11_1 = a3 then (some x9_1) else (some (([] : List Int)))) else ((spec_l01In.f (rd l1_0 (ji14)) 0 3).bind fun t502 => (if t502 = true then ((spec_l03Has.f k1 a0_0 a0_1 l0_2 (wrap64 ((wrap64 (4 * x11_1)) + (rd l1_0 (ji14))))).bind fun t503 => (if t503 = true then (if x9_1.length < 17592186044416 then ((spec_NextNode.f a0_0 a0_1 x11_1 (rd l1_0 (ji14))).bind fun t507 => (spec_l04Walk.l0 k1 a3 (x9_1 ++ [wrap64 ((wrap64 (4 * x11_1)) + (rd l1_0 (ji14)))]) t494 t507 a0_0 a0_1 l0_2 l1_0)) else (none)) else (some (([] : List Int))))) else (some (([] : List Int)))))) else (none)) else (none)) = some r := by first | (rw [hji14] at H; exact H) | (simp only [hji14] at H ⊢; exact H)
 have hji14w : (IntKind.i64.wrap ((wrap64 (x11_1 * t494)) + a3)) = ji14 := (i64_w _).trans hji14
 by_cases c15 : 0 ≤ (ji14)
 rotate_left
 ·rw [if_neg c15] at H
  exact absurd H (by simp)
 rw [if_pos c15] at H
 have c15b0 : decide (0 ≤ (ji14)) = true := decide_eq_true c15
 clear c15
 by_cases c16 : (ji14) < (l1_0.length : Int)
 rotate_left
 ·rw [if_neg c16] at H
  exact absurd H (by simp)
 rw [if_pos c16] at H
 have c16b0 : decide ((ji14) < (l1_0.length : Int)) = true := decide_eq_true c16
 clear c16
 by_cases c17 : (rd l1_0 (ji14)) = 4
 ·rw [if_pos c17] at H
  have c17b0 : ((rd l1_0 (ji14)) == 4) = true := beq_iff_eq.mpr c17
  have c17b1 : ((rd l1_0 (ji14)) != 4) = false := bne_eq_false_iff_eq.mpr c17
  clear c17
  by_cases c18 : x11_1 = a3
  ·rw [if_pos c18] at H
   have c18b0 : (x11_1 == a3) = true := beq_iff_eq.mpr c18
   have c18b1 : (x11_1 != a3) = false := bne_eq_false_iff_eq.mpr c18
   clear c18
   obtain rfl := Option.some.inj H
   obtain ⟨Ao19, co19, eo19⟩ := Kd.R_slice HO_9.out
   subst eo19
   have hnb20 := NB490_489.out
   have hnc20 := NB489_490.out
   obtain ⟨hcz21_0, hfz21_0⟩ := cz1_ BK490.out
   have p498 : 0 ≤ ((ji14) : Int) := of_decide_eq_true dg_
   have q498 : (ji14) < (l1_0.length : Int) := of_decide_eq_true dg_
   obtain ⟨ad498, e498, hx498_0⟩ := Kd.at_int HR1_0.out (ji14) p498 q498
   cases e498
   replace hx498_0 := hc_ HB hx498_0
   replace p498 := eq_true p498
   replace q498 := eq_true q498
   go_wp2
   go_ret
   exact ⟨_, by first | rfl | (simp [errW_none, errW_some] <;> rfl) | (simp only [← hji14]; first | rfl | (simp [errW_none, errW_some] <;> rfl)) | (simp [*, errW_none, errW_some] <;> rfl), ra_ HO_9.out, bb_ HB.out⟩
  rw [if_neg c18] at H
  have c18b0 : (x11_1 == a3) = false := beq_eq_false_iff_ne.mpr c18
  have c18b1 : (x11_1 != a3) = true := bne_iff_ne.mpr c18
  obtain ⟨y499, hy499⟩ : ∃ y_ : List Int, y_ = (([] : List Int)) := ⟨_, rfl⟩
  replace H : (some y499) = some r := by first | (rw [hy499]; with_reducible exact H) | (have H2_ := (Option.bind_some _ _).symm.trans H; rw [hy499]; with_reducible exact H2_) | (have H2_ := (Option.bind_some _ _).symm.trans H; with_reducible exact H2_) | with_reducible exact H | (rw [hy499]; exact H) | exact H
  have Ny499 := Aside0.mk hy499
  clear hy499
  obtain rfl := Option.some.inj H
  obtain ⟨Ao22, co22, eo22⟩ := Kd.R_slice HO_9.out
  subst eo22
  have hnb23 := NB490_489.out
  have hnc23 := NB489_490.out
  obtain ⟨hcz24_0, hfz24_0⟩ := cz1_ BK490.out
  have p498 : 0 ≤ ((ji14) : Int) := of_decide_eq_true dg_
  have q498 : (ji14) < (l1_0.length : Int) := of_decide_eq_true dg_
  obtain ⟨ad498, e498, hx498_0⟩ := Kd.at_int HR1_0.out (ji14) p498 q498
  cases e498
  replace hx498_0 := hc_ HB hx498_0
  replace p498 := eq_true p498
  replace q498 := eq_true q498
  go_wp2_with (first | ((with_reducible refine gate_dst (N := 36) rfl ?_); refine Kd.R_lit (Kd.int .i64) _ 3 ?hg (N := 36) ?hd (xs := ([] : List Int)) (inner := []) (ok := fun _ => True) (okp := fun _ => True) ?hr ?hp (fun _ hk => hk) trivial (Below.refl _ _) (Nat.le_refl _) (by simp) ?_; (case hd => rfl); (case hg => rfl); (case hr => first | (go_simp; done) | (go_simp; rfl)); (case hp => exact (Reps.none _ _)); intro v500 w25 ho26 hb hg_ hnew_; clear hg_ hnew_; (first | rw [← Ny499.out] at ho26 | (simp only [Int.reduceToNat] at ho26; rw [← Ny499.out] at ho26)); have HO501 := Aside0.mk (Kd.R_lower (Kd.R_new' ho26 (rl_ HO_9.out)) (bz_ HB.out)); replace HO_9 := re_ HO_9 ho26 hb; replace BK489 := kb_ BK489 hb; replace BK490 := kb_ BK490 hb; replace HB := hs_ HB hb; clear hb ho26))
  go_ret
  exact ⟨_, by first | rfl | (simp [errW_none, errW_some] <;> rfl) | (simp only [← hji14]; first | rfl | (simp [errW_none, errW_some] <;> rfl)) | (simp [*, errW_none, errW_some] <;> rfl), by (with_reducible repeat (first | apply Kd.R_alloc | apply Kd.R_drewN | apply Kd.R_drew)); exact Kd.R_mono HO501.out (fun _ hk => trivial), bb_ HB.out⟩
 rw [if_neg c17] at H
 have c17b0 : ((rd l1_0 (ji14)) == 4) = false := beq_eq_false_iff_ne.mpr c17
 have c17b1 : ((rd l1_0 (ji14)) != 4) = true := bne_iff_ne.mpr c17
 obtain ⟨t502, A27, H⟩ := bi_ H
 by_cases c28 : t502 = true
 rotate_left
 ·replace c28 := Bool.eq_false_iff.mpr c28
  subst c28
  rw [if_neg (show ¬ (false = true) by decide)] at H
  obtain ⟨y511, hy511⟩ : ∃ y_ : List Int, y_ = (([] : List Int)) := ⟨_, rfl⟩
  replace H : (some y511) = some r := by first | (rw [hy511]; with_reducible exact H) | (have H2_ := (Option.bind_some _ _).symm.trans H; rw [hy511]; with_reducible exact H2_) | (have H2_ := (Option.bind_some _ _).symm.trans H; with_reducible exact H2_) | with_reducible exact H | (rw [hy511]; exact H) | exact H
  have Ny511 := Aside0.mk hy511
  clear hy511
  obtain rfl := Option.some.inj H
  obtain ⟨Ao48, co48, eo48⟩ := Kd.R_slice HO_9.out
  subst eo48
  have hnb49 := NB490_489.out
  have hnc49 := NB489_490.out
  obtain ⟨hcz50_0, hfz50_0⟩ := cz1_ BK490.out
  have p498 : 0 ≤ ((ji14) : Int) := of_decide_eq_true dg_
  have q498 : (ji14) < (l1_0.length : Int) := of_decide_eq_true dg_
  obtain ⟨ad498, e498, hx498_0⟩ := Kd.at_int HR1_0.out (ji14) p498 q498
  cases e498
  replace hx498_0 := hc_ HB hx498_0
  replace p498 := eq_true p498
  replace q498 := eq_true q498
  go_wp2_with (first | ((with_reducible refine gate_callee (f := 91) rfl ?_); refine goesL_ (some 39) rfl rfl Tryz.func91 (by kernel_rfl) rfl #[.int .i64 (rd l1_0 (ji14)), .int .i64 0, .int .i64 3] rfl (by (try simp only [List.map_toArray, List.map_cons, List.map_nil]); first | done | (simp only [hji14]; rfl) | rfl | (simp only [List.length_drop, List.length_take]; rfl)) ?_; (with_reducible refine (spec_l01In.calls (rd l1_0 (ji14)) 0 3 false _ A27.out).mono ?_); rintro e w' ⟨rfl, ⟨nd, rfl⟩⟩; refine ⟨_, rfl, ?_⟩) | ((with_reducible refine gate_dst (N := 50) rfl ?_); refine Kd.R_lit (Kd.int .i64) _ 3 ?hg (N := 50) ?hd (xs := ([] : List Int)) (inner := []) (ok := fun _ => True) (okp := fun _ => True) ?hr ?hp (fun _ hk => hk) trivial (Below.refl _ _) (Nat.le_refl _) (by simp) ?_; (case hd => rfl); (case hg => rfl); (case hr => first | (go_simp; done) | (go_simp; rfl)); (case hp => exact (Reps.none _ _)); intro v512 w51 ho52 hb hg_ hnew_; clear hg_ hnew_; (first | rw [← Ny511.out] at ho52 | (simp only [Int.reduceToNat] at ho52; rw [← Ny511.out] at ho52)); have HO513 := Aside0.mk (Kd.R_lower (Kd.R_new' ho52 (rl_ HO_9.out)) (bz_ HB.out)); replace HO_9 := re_ HO_9 ho52 hb; replace BK489 := kb_ BK489 hb; replace BK490 := kb_ BK490 hb; replace HB := hs_ HB hb; clear hb ho52))
  go_ret
  exact ⟨_, by first | rfl | (simp [errW_none, errW_some] <;> rfl) | (simp only [← hji14]; first | rfl | (simp [errW_none, errW_some] <;> rfl)) | (simp [*, errW_none, errW_some] <;> rfl), by (with_reducible repeat (first | apply Kd.R_alloc | apply Kd.R_drewN | apply Kd.R_drew)); exact Kd.R_mono HO513.out (fun _ hk => trivial), bb_ HB.out⟩
 subst c28
 rw [if_pos rfl] at H
 obtain ⟨t503, A29, H⟩ := bi_ H
 by_cases c30 : t503 = true
 rotate_left
 ·replace c30 := Bool.eq_false_iff.mpr c30
  subst c30
  rw [if_neg (show ¬ (false = true) by decide)] at H
  obtain ⟨y508, hy508⟩ : ∃ y_ : List Int, y_ = (([] : List Int)) := ⟨_, rfl⟩
  replace H : (some y508) = some r := by first | (rw [hy508]; with_reducible exact H) | (have H2_ := (Option.bind_some _ _).symm.trans H; rw [hy508]; with_reducible exact H2_) | (have H2_ := (Option.bind_some _ _).symm.trans H; with_reducible exact H2_) | with_reducible exact H | (rw [hy508]; exact H) | exact H
  have Ny508 := Aside0.mk hy508
  clear hy508
  obtain rfl := Option.some.inj H
  obtain ⟨Ao41, co41, eo41⟩ := Kd.R_slice HO_9.out
  subst eo41
  have hnb42 := NB490_489.out
  have hnc42 := NB489_490.out
  obtain ⟨hcz43_0, hfz43_0⟩ := cz1_ BK490.out
  have p498 : 0 ≤ ((ji14) : Int) := of_decide_eq_true dg_
  have q498 : (ji14) < (l1_0.length : Int) := of_decide_eq_true dg_
  obtain ⟨ad498, e498, hx498_0⟩ := Kd.at_int HR1_0.out (ji14) p498 q498
  cases e498
  replace hx498_0 := hc_ HB hx498_0
  replace p498 := eq_true p498
  replace q498 := eq_true q498
  go_wp2_with (first | ((with_reducible refine gate_callee (f := 91) rfl ?_); refine goesL_ (some 39) rfl rfl Tryz.func91 (by kernel_rfl) rfl #[.int .i64 (rd l1_0 (ji14)), .int .i64 0, .int .i64 3] rfl (by (try simp only [List.map_toArray, List.map_cons, List.map_nil]); first | done | (simp only [hji14]; rfl) | rfl | (simp only [List.length_drop, List.length_take]; rfl)) ?_; (with_reducible refine (spec_l01In.calls (rd l1_0 (ji14)) 0 3 true _ A27.out).mono ?_); rintro e w' ⟨rfl, ⟨nd, rfl⟩⟩; refine ⟨_, rfl, ?_⟩; obtain ⟨hcz44_0, hcz44_1, hcz44_2, hfz44_0, hfz44_1, hfz44_2⟩ := cz3_ BK489.out) | (go_at_call 113; (with_reducible refine (spec_l03Has.calls k1 a0_0 a0_1 _ _ l0_2 (wrap64 ((wrap64 (4 * x11_1)) + (rd l1_0 (ji14)))) false _ ?side1 HC0_2.out A29.out).mono ?_); (case side1 => exact cb_ HR0_2.out HB.out); rintro e w45 ⟨rfl, hb⟩; replace HO_9 := rb_ HO_9 hb; replace BK489 := kb_ BK489 hb; replace BK490 := kb_ BK490 hb; replace HB := hs_ HB hb; (try clear hb)) | ((with_reducible refine gate_dst (N := 50) rfl ?_); refine Kd.R_lit (Kd.int .i64) _ 3 ?hg (N := 50) ?hd (xs := ([] : List Int)) (inner := []) (ok := fun _ => True) (okp := fun _ => True) ?hr ?hp (fun _ hk => hk) trivial (Below.refl _ _) (Nat.le_refl _) (by simp) ?_; (case hd => rfl); (case hg => rfl); (case hr => first | (go_simp; done) | (go_simp; rfl)); (case hp => exact (Reps.none _ _)); intro v509 w46 ho47 hb hg_ hnew_; clear hg_ hnew_; (first | rw [← Ny508.out] at ho47 | (simp only [Int.reduceToNat] at ho47; rw [← Ny508.out] at ho47)); have HO510 := Aside0.mk (Kd.R_lower (Kd.R_new' ho47 (rl_ HO_9.out)) (bz_ HB.out)); replace HO_9 := re_ HO_9 ho47 hb; replace BK489 := kb_ BK489 hb; replace BK490 := kb_ BK490 hb; replace HB := hs_ HB hb; clear hb ho47))
  go_ret
  exact ⟨_, by first | rfl | (simp [errW_none, errW_some] <;> rfl) | (simp only [← hji14]; first | rfl | (simp [errW_none, errW_some] <;> rfl)) | (simp [*, errW_none, errW_some] <;> rfl), by (with_reducible repeat (first | apply Kd.R_alloc | apply Kd.R_drewN | apply Kd.R_drew)); exact Kd.R_mono HO510.out (fun _ hk => trivial), bb_ HB.out⟩
 subst c30
 rw [if_pos rfl] at H
 by_cases c31 : x9_1.length < 17592186044416
 rotate_left
 ·rw [if_neg c31] at H
  exact absurd H (by simp)
 rw [if_pos c31] at H
 have LMc31 := Aside0.mk c31
 clear c31
 obtain ⟨y504, hy504⟩ : ∃ y_ : List Int, y_ = (x9_1 ++ [wrap64 ((wrap64 (4 * x11_1)) + (rd l1_0 (ji14)))]) := ⟨_, rfl⟩
 replace H : ((spec_NextNode.f a0_0 a0_1 x11_1 (rd l1_0 (ji14))).bind fun t507 => (spec_l04Walk.l0 k1 a3 y504 t494 t507 a0_0 a0_1 l0_2 l1_0)) = some r := by first | (rw [hy504]; with_reducible exact H) | (have H2_ := (Option.bind_some _ _).symm.trans H; rw [hy504]; with_reducible exact H2_) | (have H2_ := (Option.bind_some _ _).symm.trans H; with_reducible exact H2_) | with_reducible exact H | (rw [hy504]; exact H) | exact H
 have Ny504 := Aside0.mk hy504
 clear hy504
 obtain ⟨t507, A32, H⟩ := bi_ H
 have H' := Aside0.mk H
 clear H
 obtain ⟨Ao33, co33, eo33⟩ := Kd.R_slice HO_9.out
 subst eo33
 have hnb34 := NB490_489.out
 have hnc34 := NB489_490.out
 obtain ⟨hcz35_0, hfz35_0⟩ := cz1_ BK490.out
 have p498 : 0 ≤ ((ji14) : Int) := of_decide_eq_true dg_
 have q498 : (ji14) < (l1_0.length : Int) := of_decide_eq_true dg_
 obtain ⟨ad498, e498, hx498_0⟩ := Kd.at_int HR1_0.out (ji14) p498 q498
 cases e498
 replace hx498_0 := hc_ HB hx498_0
 replace p498 := eq_true p498
 replace q498 := eq_true q498
 go_wp2_with (first | ((with_reducible refine gate_callee (f := 91) rfl ?_); refine goesL_ (some 39) rfl rfl Tryz.func91 (by kernel_rfl) rfl #[.int .i64 (rd l1_0 (ji14)), .int .i64 0, .int .i64 3] rfl (by (try simp only [List.map_toArray, List.map_cons, List.map_nil]); first | done | (simp only [hji14]; rfl) | rfl | (simp only [List.length_drop, List.length_take]; rfl)) ?_; (with_reducible refine (spec_l01In.calls (rd l1_0 (ji14)) 0 3 true _ A27.out).mono ?_); rintro e w' ⟨rfl, ⟨nd, rfl⟩⟩; refine ⟨_, rfl, ?_⟩; obtain ⟨hcz36_0, hcz36_1, hcz36_2, hfz36_0, hfz36_1, hfz36_2⟩ := cz3_ BK489.out) | (go_at_call 113; (with_reducible refine (spec_l03Has.calls k1 a0_0 a0_1 _ _ l0_2 (wrap64 ((wrap64 (4 * x11_1)) + (rd l1_0 (ji14)))) true _ ?side1 HC0_2.out A29.out).mono ?_); (case side1 => exact cb_ HR0_2.out HB.out); rintro e w37 ⟨rfl, hb⟩; replace HO_9 := rb_ HO_9 hb; replace BK489 := kb_ BK489 hb; replace BK490 := kb_ BK490 hb; replace HB := hs_ HB hb; (try clear hb)) | ((with_reducible refine gate_builtin (b := .append) (xs := #[.tmp 51, .tmp 56]) rfl ?_); at_builtin; refine Kd.R_append (Kd.int .i64) (w0 := w) w.heap.size rfl (.tmp 51) (.tmp 56) 24 3 (.int .i64 0) 8 rfl Tryz.underlying24 info3 rfl (by decide) (by omega) (.slice Ao33 x9_1.length co33) x9_1 (wrap64 ((wrap64 (4 * x11_1)) + (rd l1_0 (ji14)))) [.int .i64 (wrap64 ((wrap64 (4 * x11_1)) + (rd l1_0 (ji14))))] (fun _ => True) (fun _ => False) rfl rfl ?aP (fun _ hk => hk.elim) ?aF ?aO ?aB ?aS ?aL ?_; (case aP => exact rfl); (case aB => exact (by repeat (first | (with_reducible first | exact HB.out | apply below_alloc | apply pw_below_drewN | apply below_drew1 | refine below_set ?_ GE489.out | refine below_set ?_ GE490.out) | exact HB.out))); (case aF => exact (fun _ _ => trivial)); (case aO => exact (ra_ HO_9.out)); (case aS => exact (bz_ HB.out)); (case aL => have := LMc31.out; omega); intro v505 w38 ho hb hg hat; rw [← Ny504.out] at ho; have n0_ := Aside0.mk (blk_grown (g := gb489) (o := .cells #[.int .i64 a0_0, .int .i64 a0_1, .slice A0_2 l0_2.length c0_2] 38 (0, 0)) (by (with_reducible repeat (first | refine blk_drewN ?_ _ | refine blk_drew ?_ | refine blk_alloc ?_ _)); exact BK489.out) hg (Kd.R_ne HO_9.out BK489.out (by decide))); have n1_ := Aside0.mk (blk_grown (g := gb490) (o := .cells #[.slice (some ad498) l1_0.length c1_0] 40 (0, 0)) (by (with_reducible repeat (first | refine blk_drewN ?_ _ | refine blk_drew ?_ | refine blk_alloc ?_ _)); exact BK490.out) hg (Kd.R_ne HO_9.out BK490.out (by decide))); have n2_ := Aside0.mk (hb); have n3_ := Aside0.mk (ho); clear BK489; clear BK490; clear HB; clear HO_9; have BK489 := n0_; have BK490 := n1_; have HB := n2_; have HO506 := n3_; clear n0_ n1_ n2_ n3_; clear ho hb hg hat; obtain ⟨hcz39_0, hcz39_1, hcz39_2, hfz39_0, hfz39_1, hfz39_2⟩ := cz3_ BK489.out) | ((with_reducible refine gate_callee (f := 114) rfl ?_); refine goesL_ (some 62) rfl rfl Tryz.func114 (by kernel_rfl) rfl #[.agg #[.int .i64 a0_0, .int .i64 a0_1], .int .i64 x11_1, .int .i64 (rd l1_0 (ji14))] rfl (by (try simp only [List.map_toArray, List.map_cons, List.map_nil]); first | done | (simp only [hji14]; rfl) | rfl | (simp only [List.length_drop, List.length_take]; rfl)) ?_; (with_reducible refine (spec_NextNode.calls a0_0 a0_1 x11_1 (rd l1_0 (ji14)) t507 _ A32.out).mono ?_); rintro e w40 ⟨rfl, hb⟩; refine ⟨_, rfl, ?_⟩; replace HO506 := rb_ HO506 hb; replace BK489 := kb_ BK489 hb; replace BK490 := kb_ BK490 hb; replace HB := hs_ HB hb; (try clear hb)))
 go_roundg k1
 case measure => have := HK1.out; omega
 case rel => exact ⟨(y504), (t507), ef_, H', ⟨by have := HK1.out; omega⟩, ⟨ra_ HO506.out⟩, ⟨bq_ BK489.out⟩, ⟨bq_ BK490.out⟩, ⟨bb_ HB.out⟩⟩

/-! ### spec_TableOk: function 48 -/
mutual
def spec_TableOk.l0 : Nat → Int → Int → Int → Int → List Int → List Int → Option (Bool)
 | 0, _, _, _, _, _, _ => none
 | k + 1, x5, x6, x515000, x515001, x515002, x516000 => if x6 < x5 then (spec_TableOk.l1 k x5 x6 0 x515000 x515001 x515002 x516000) else (some true)
def spec_TableOk.l1 : Nat → Int → Int → Int → Int → Int → List Int → List Int → Option (Bool)
 | 0, _, _, _, _, _, _, _ => none
 | k + 1, x5, x6, x7, x515000, x515001, x515002, x516000 => if x7 < x5 then (if x6 = x7 then (if 0 ≤ (wrap64 ((wrap64 (x6 * x5)) + x6)) then (if (wrap64 ((wrap64 (x6 * x5)) + x6)) < (x516000.length : Int) then (if (rd x516000 (wrap64 ((wrap64 (x6 * x5)) + x6))) = 4 then (spec_TableOk.l1 k x5 x6 (wrap64 (x7 + 1)) x515000 x515001 x515002 x516000) else (some false)) else (none)) else (none)) else ((spec_l04Walk.f k x515000 x515001 x515002 x516000 x6 x7).bind fun t519 => (if (t519.length : Int) = 0 then (some false) else (spec_TableOk.l1 k x5 x6 (wrap64 (x7 + 1)) x515000 x515001 x515002 x516000)))) else (spec_TableOk.l0 k x5 (wrap64 (x6 + 1)) x515000 x515001 x515002 x516000)
end
def spec_TableOk.f (k : Nat) (a0_0 : Int) (a0_1 : Int) (l0_2 : List Int) (l1_0 : List Int) : Option (Bool) := (spec_l04Sized.f k a0_0 a0_1 l0_2 l1_0).bind fun t516 => (if t516 = true then ((spec_NodeCount.f a0_0 a0_1).bind fun t517 => (spec_TableOk.l0 k t517 0 a0_0 a0_1 l0_2 l1_0)) else (some false))
theorem spec_TableOk.mono_l : ∀ k, (∀ y0 y1 y2 y3 y4 y5, LeO (spec_TableOk.l0 k y0 y1 y2 y3 y4 y5) (spec_TableOk.l0 (k + 1) y0 y1 y2 y3 y4 y5)) ∧ (∀ y0 y1 y2 y3 y4 y5 y6, LeO (spec_TableOk.l1 k y0 y1 y2 y3 y4 y5 y6) (spec_TableOk.l1 (k + 1) y0 y1 y2 y3 y4 y5 y6))
 | 0 => ⟨fun _ _ _ _ _ _ r h => by simp [spec_TableOk.l0] at h, fun _ _ _ _ _ _ _ r h => by simp [spec_TableOk.l1] at h⟩
 | k + 1 => by
  obtain ⟨ih0, ih1⟩ := spec_TableOk.mono_l k
  refine ⟨?_, ?_⟩
  ·intro y0 y1 y2 y3 y4 y5
   unfold spec_TableOk.l0
   repeat' (with_reducible first | exact ih0 .. | exact ih1 .. | exact spec_l04Sized.mono .. | exact spec_l04Walk.mono .. | exact LeO.refl .. | exact LeO.none .. | refine LeO.ite ?_ ?_ | refine LeO.bind ?_ (fun _ => ?_))
  ·intro y0 y1 y2 y3 y4 y5 y6
   unfold spec_TableOk.l1
   repeat' (with_reducible first | exact ih0 .. | exact ih1 .. | exact spec_l04Sized.mono .. | exact spec_l04Walk.mono .. | exact LeO.refl .. | exact LeO.none .. | refine LeO.ite ?_ ?_ | refine LeO.bind ?_ (fun _ => ?_))
theorem spec_TableOk.mono : ∀ a0 a1 a2 a3 k, LeO (spec_TableOk.f k a0 a1 a2 a3) (spec_TableOk.f (k + 1) a0 a1 a2 a3) := by
 intro a0 a1 a2 a3 k
 obtain ⟨ih0, ih1⟩ := spec_TableOk.mono_l k
 unfold spec_TableOk.f
 repeat' (with_reducible first | exact ih0 .. | exact ih1 .. | exact spec_l04Sized.mono .. | exact spec_l04Walk.mono .. | exact LeO.refl .. | exact LeO.none .. | refine LeO.ite ?_ ?_ | refine LeO.bind ?_ (fun _ => ?_))
theorem spec_TableOk.calls (k : Nat) (a0_0 : Int) (a0_1 : Int) (A0_2 : Option Addr) (c0_2 : Nat) (l0_2 : List Int) (A1_0 : Option Addr) (c1_0 : Nat) (l1_0 : List Int) (r : Bool) (w : World) (hr0_2 : Kd.C (Kd.int .i64) w A0_2 l0_2.length l0_2) (hc0_2 : l0_2.length ≤ c0_2) (hr1_0 : Kd.C (Kd.int .i64) w A1_0 l1_0.length l1_0) (hc1_0 : l1_0.length ≤ c1_0) (h : spec_TableOk.f k a0_0 a0_1 l0_2 l1_0 = some r) :
  Calls Tryz.prog 48 #[.agg #[.int .i64 a0_0, .int .i64 a0_1, .slice A0_2 l0_2.length c0_2], .agg #[.slice A1_0 l1_0.length c1_0]] w fun e w' => e = .returned (.bool r) ∧ Below w.heap.size w w' := by
 have hu38 := Tryz.underlying38
 have hu40 := Tryz.underlying40
 have hu36 := Tryz.underlying36
 have HR0_2 := Aside0.mk hr0_2
 have HC0_2 := Aside0.mk hc0_2
 clear hr0_2 hc0_2
 have HR1_0 := Aside0.mk hr1_0
 have HC1_0 := Aside0.mk hc1_0
 clear hr1_0 hc1_0
 have HB := Aside0.mk (Below.refl w.heap.size w)
 have H : ((spec_l04Sized.f k a0_0 a0_1 l0_2 l1_0).bind fun t516 => (if t516 = true then ((spec_NodeCount.f a0_0 a0_1).bind fun t517 => (spec_TableOk.l0 k t517 0 a0_0 a0_1 l0_2 l1_0)) else (some false))) = some r := h
 clear h
 obtain ⟨t516, A3, H⟩ := bi_ H
 by_cases c4 : t516 = true
 ·subst c4
  rw [if_pos rfl] at H
  obtain ⟨t517, A5, H⟩ := bi_ H
  have H' := Aside0.mk H
  clear H
  go_enter Tryz.func48, Tryz.ntmps48
  go_wp2_with (first | ((with_reducible refine gate_dst (N := 2) rfl ?_); (try (refine gate_guard (by rfl) ?_; dsimp only)); refine box_event ?hg (N := 2) ?hd (cs := #[.int .i64 a0_0, .int .i64 a0_1, .slice A0_2 l0_2.length c0_2]) (t := 38) ?hr ?_; (case hd => rfl); (case hg => rfl); (case hr => first | (go_simp; done) | (go_simp; rfl)); intro gb514 hg w6 hbox hb; have BK514 := Aside0.mk (hbox); have GW514 := gw_ hg HB; have GE514 := gw_ hg HB; replace HB := hs_ HB hb; clear hb hbox hg) | ((with_reducible refine gate_dst (N := 3) rfl ?_); (try (refine gate_guard (by rfl) ?_; dsimp only)); refine box_event ?hg (N := 3) ?hd (cs := #[.slice A1_0 l1_0.length c1_0]) (t := 40) ?hr ?_; (case hd => rfl); (case hg => rfl); (case hr => first | (go_simp; done) | (go_simp; rfl)); intro gb515 hg w7 hbox hb; have BK515 := Aside0.mk (hbox); have GW515 := gw_ hg HB; have GE515 := gw_ hg HB; replace HB := hs_ HB hb; have NB514_515 := nl_ hg BK514; have NB515_514 := ng_ hg BK514; replace BK514 := kb_ BK514 hb; clear hb hbox hg; have hnb8 := NB514_515.out; have hnc8 := NB515_514.out; obtain ⟨hcz9_0, hcz9_1, hcz9_2, hfz9_0, hfz9_1, hfz9_2⟩ := cz3_ BK514.out; obtain ⟨hcz10_0, hfz10_0⟩ := cz1_ BK515.out) | ((with_reducible refine gate_callee (f := 79) rfl ?_); refine gm_ (some 10) Tryz.func79 #[.agg #[.int .i64 a0_0, .int .i64 a0_1, .slice A0_2 l0_2.length c0_2], .agg #[.slice A1_0 l1_0.length c1_0]] rfl ?_; (with_reducible refine (spec_l04Sized.calls k a0_0 a0_1 _ _ l0_2 _ _ l1_0 true _ ?side1 HC0_2.out ?side3 HC1_0.out A3.out).mono ?_); (case side1 => exact cb_ HR0_2.out HB.out); (case side3 => exact cb_ HR1_0.out HB.out); rintro e w11 ⟨rfl, hb⟩; refine ⟨_, rfl, ?_⟩; replace BK514 := kb_ BK514 hb; replace BK515 := kb_ BK515 hb; replace HB := hs_ HB hb; (try clear hb); obtain ⟨hcz12_0, hcz12_1, hcz12_2, hfz12_0, hfz12_1, hfz12_2⟩ := cz3_ BK514.out) | ((with_reducible refine gate_callee (f := 80) rfl ?_); refine gm_ (some 14) Tryz.func80 #[.agg #[.int .i64 a0_0, .int .i64 a0_1]] rfl ?_; (with_reducible refine (spec_NodeCount.calls a0_0 a0_1 t517 _ A5.out).mono ?_); rintro e w13 ⟨rfl, hb⟩; refine ⟨_, rfl, ?_⟩; replace BK514 := kb_ BK514 hb; replace BK515 := kb_ BK515 hb; replace HB := hs_ HB hb; (try clear hb)))
  go_loopg [6] k (fun kq v6 w' => ∃ (x6_1 : Int), v6 = .int .i64 x6_1 ∧ Aside0 (spec_TableOk.l0 kq t517 x6_1 a0_0 a0_1 l0_2 l1_0 = some r) ∧ Aside0 (kq ≤ k) ∧ Aside0 (w'.heap[gb514]? = some (.cells #[.int .i64 a0_0, .int .i64 a0_1, (.slice A0_2 l0_2.length c0_2)] 38 (0, 0))) ∧ Aside0 (w'.heap[gb515]? = some (.cells #[(.slice A1_0 l1_0.length c1_0)] 40 (0, 0))) ∧ Aside0 (Below w.heap.size w w'))
  case atStart => exact ⟨(0), ef_, H', ⟨Nat.le_refl _⟩, ⟨bq_ BK514.out⟩, ⟨bq_ BK515.out⟩, ⟨bb_ HB.out⟩⟩
  clear H'
  try clear c4
  try clear hcz10_0 hfz10_0
  try clear hcz12_0 hcz12_1 hcz12_2 hfz12_0 hfz12_1 hfz12_2
  try clear hcz9_0 hcz9_1 hcz9_2 hfz9_0 hfz9_1 hfz9_2
  obtain ⟨x6_1, rfl, HA, HK1, BK514, BK515, HB⟩ := hrel
  obtain _ | k1 := gk
  ·exact absurd HA.out (by simp [spec_TableOk.l0])
  have H := HA.out
  clear HA
  simp only [spec_TableOk.l0] at H
  by_cases c14 : x6_1 < t517
  rotate_left
  ·rw [if_neg c14] at H
   have c14b0 : decide (x6_1 < t517) = false := decide_eq_false c14
   clear c14
   obtain rfl := Option.some.inj H
   go_wp2
   go_ret
   exact ⟨fin_, bb_ HB.out⟩
  rw [if_pos c14] at H
  have c14b0 : decide (x6_1 < t517) = true := decide_eq_true c14
  clear c14
  have H' := Aside0.mk H
  clear H
  go_wp2
  go_loopg [7] k1 (fun kq v7 w' => ∃ (x7_2 : Int), v7 = .int .i64 x7_2 ∧ Aside0 (spec_TableOk.l1 kq t517 x6_1 x7_2 a0_0 a0_1 l0_2 l1_0 = some r) ∧ Aside0 (kq ≤ k1) ∧ Aside0 (w'.heap[gb514]? = some (.cells #[.int .i64 a0_0, .int .i64 a0_1, (.slice A0_2 l0_2.length c0_2)] 38 (0, 0))) ∧ Aside0 (w'.heap[gb515]? = some (.cells #[(.slice A1_0 l1_0.length c1_0)] 40 (0, 0))) ∧ Aside0 (Below w.heap.size w w'))
  case atStart => exact ⟨(0), ef_, H', ⟨Nat.le_refl _⟩, ⟨bq_ BK514.out⟩, ⟨bq_ BK515.out⟩, ⟨bb_ HB.out⟩⟩
  clear H'
  try clear c4
  try clear c14
  try clear c14b0
  try clear hcz10_0 hfz10_0
  try clear hcz12_0 hcz12_1 hcz12_2 hfz12_0 hfz12_1 hfz12_2
  try clear hcz9_0 hcz9_1 hcz9_2 hfz9_0 hfz9_1 hfz9_2
  obtain ⟨x7_2, rfl, HA, HK2, BK514, BK515, HB⟩ := hrel
  obtain _ | k2 := gk
  ·exact absurd HA.out (by simp [spec_TableOk.l1])
  have H := HA.out
  clear HA
  simp only [spec_TableOk.l1] at H
  by_cases c15 : x7_2 < t517
  rotate_left
  ·rw [if_neg c15] at H
   have c15b0 : decide (x7_2 < t517) = false := decide_eq_false c15
   clear c15
   have H' := Aside0.mk H
   clear H
   go_wp2
   go_roundg k2
   case measure => have := HK1.out; have := HK2.out; omega
   case rel => exact ⟨(wrap64 (x6_1 + 1)), ef_, H', ⟨by have := HK1.out; have := HK2.out; omega⟩, ⟨bq_ BK514.out⟩, ⟨bq_ BK515.out⟩, ⟨bb_ HB.out⟩⟩
  rw [if_pos c15] at H
  have c15b0 : decide (x7_2 < t517) = true := decide_eq_true c15
  clear c15
  by_cases c16 : x6_1 = x7_2
  rotate_left
  ·rw [if_neg c16] at H
   have c16b0 : (x6_1 == x7_2) = false := beq_eq_false_iff_ne.mpr c16
   have c16b1 : (x6_1 != x7_2) = true := bne_iff_ne.mpr c16
   obtain ⟨t519, A25, H⟩ := bi_ H
   by_cases c26 : (t519.length : Int) = 0
   ·rw [if_pos c26] at H
    have c26b0 : ((t519.length : Int) == 0) = true := beq_iff_eq.mpr c26
    have c26b1 : ((t519.length : Int) != 0) = false := bne_eq_false_iff_eq.mpr c26
    clear c26
    obtain rfl := Option.some.inj H
    have hnb27 := NB514_515.out
    have hnc27 := NB515_514.out
    obtain ⟨hcz28_0, hcz28_1, hcz28_2, hfz28_0, hfz28_1, hfz28_2⟩ := cz3_ BK514.out
    obtain ⟨hcz29_0, hfz29_0⟩ := cz1_ BK515.out
    go_wp2_with (first | (go_at_call 81; (with_reducible refine (spec_l04Walk.calls k2 a0_0 a0_1 _ _ l0_2 _ _ l1_0 x6_1 x7_2 t519 _ ?side1 HC0_2.out ?side3 HC1_0.out A25.out).mono ?_); (case side1 => exact cb_ HR0_2.out HB.out); (case side3 => exact cb_ HR1_0.out HB.out); rintro e w30 ⟨v520, rfl, ho0, hb⟩; have HO521 := Aside0.mk (Kd.R_lower ho0 (bz_ HB.out)); replace BK514 := kb_ BK514 hb; replace BK515 := kb_ BK515 hb; replace HB := hs_ HB hb; (try clear hb); (try clear ho0); obtain ⟨Ao31, co31, eo31⟩ := Kd.R_slice HO521.out; subst eo31))
    go_ret
    exact ⟨fin_, bb_ HB.out⟩
   rw [if_neg c26] at H
   have c26b0 : ((t519.length : Int) == 0) = false := beq_eq_false_iff_ne.mpr c26
   have c26b1 : ((t519.length : Int) != 0) = true := bne_iff_ne.mpr c26
   have c26b2 : ¬ (t519 = []) := fun h_ => c26 (by rw [h_]; rfl)
   have H' := Aside0.mk H
   clear H
   have hnb32 := NB514_515.out
   have hnc32 := NB515_514.out
   obtain ⟨hcz33_0, hcz33_1, hcz33_2, hfz33_0, hfz33_1, hfz33_2⟩ := cz3_ BK514.out
   obtain ⟨hcz34_0, hfz34_0⟩ := cz1_ BK515.out
   go_wp2_with (first | (go_at_call 81; (with_reducible refine (spec_l04Walk.calls k2 a0_0 a0_1 _ _ l0_2 _ _ l1_0 x6_1 x7_2 t519 _ ?side1 HC0_2.out ?side3 HC1_0.out A25.out).mono ?_); (case side1 => exact cb_ HR0_2.out HB.out); (case side3 => exact cb_ HR1_0.out HB.out); rintro e w35 ⟨v520, rfl, ho0, hb⟩; have HO521 := Aside0.mk (Kd.R_lower ho0 (bz_ HB.out)); replace BK514 := kb_ BK514 hb; replace BK515 := kb_ BK515 hb; replace HB := hs_ HB hb; (try clear hb); (try clear ho0); obtain ⟨Ao36, co36, eo36⟩ := Kd.R_slice HO521.out; subst eo36))
   go_roundg k2
   case measure => have := HK1.out; have := HK2.out; omega
   case rel => exact ⟨(wrap64 (x7_2 + 1)), ef_, H', ⟨by have := HK1.out; have := HK2.out; omega⟩, ⟨bq_ BK514.out⟩, ⟨bq_ BK515.out⟩, ⟨bb_ HB.out⟩⟩
  rw [if_pos c16] at H
  have c16b0 : (x6_1 == x7_2) = true := beq_iff_eq.mpr c16
  have c16b1 : (x6_1 != x7_2) = false := bne_eq_false_iff_eq.mpr c16
  clear c16
  obtain ⟨ji17, hji17⟩ : ∃ j_ : Int, (wrap64 ((wrap64 (x6_1 * t517)) + x6_1)) = j_ := ⟨_, rfl⟩
  replace H : (if 0 ≤ (ji17) then (if (ji17) < (l1_0.length : Int) then (if (rd l1_0 (ji17)) = 4 then (spec_TableOk.l1 k2 t517 x6_1 (wrap64 (x7_2 + 1)) a0_0 a0_1 l0_2 l1_0) else (some false)) else (none)) else (none)) = some r := by first | (rw [hji17] at H; exact H) | (simp only [hji17] at H ⊢; exact H)
  have hji17w : (IntKind.i64.wrap ((wrap64 (x6_1 * t517)) + x6_1)) = ji17 := (i64_w _).trans hji17
  by_cases c18 : 0 ≤ (ji17)
  rotate_left
  ·rw [if_neg c18] at H
   exact absurd H (by simp)
  rw [if_pos c18] at H
  have c18b0 : decide (0 ≤ (ji17)) = true := decide_eq_true c18
  clear c18
  by_cases c19 : (ji17) < (l1_0.length : Int)
  rotate_left
  ·rw [if_neg c19] at H
   exact absurd H (by simp)
  rw [if_pos c19] at H
  have c19b0 : decide ((ji17) < (l1_0.length : Int)) = true := decide_eq_true c19
  clear c19
  by_cases c20 : (rd l1_0 (ji17)) = 4
  rotate_left
  ·rw [if_neg c20] at H
   have c20b0 : ((rd l1_0 (ji17)) == 4) = false := beq_eq_false_iff_ne.mpr c20
   have c20b1 : ((rd l1_0 (ji17)) != 4) = true := bne_iff_ne.mpr c20
   obtain rfl := Option.some.inj H
   have hnb23 := NB515_514.out
   have hnc23 := NB514_515.out
   obtain ⟨hcz24_0, hfz24_0⟩ := cz1_ BK515.out
   have p518 : 0 ≤ ((ji17) : Int) := of_decide_eq_true dg_
   have q518 : (ji17) < (l1_0.length : Int) := of_decide_eq_true dg_
   obtain ⟨ad518, e518, hx518_0⟩ := Kd.at_int HR1_0.out (ji17) p518 q518
   cases e518
   replace hx518_0 := hc_ HB hx518_0
   replace p518 := eq_true p518
   replace q518 := eq_true q518
   go_wp2
   go_ret
   exact ⟨by first | rfl | (simp [errW_none, errW_some] <;> rfl) | (simp only [← hji17]; first | rfl | (simp [errW_none, errW_some] <;> rfl)) | (simp [*, errW_none, errW_some] <;> rfl), bb_ HB.out⟩
  rw [if_pos c20] at H
  have c20b0 : ((rd l1_0 (ji17)) == 4) = true := beq_iff_eq.mpr c20
  have c20b1 : ((rd l1_0 (ji17)) != 4) = false := bne_eq_false_iff_eq.mpr c20
  clear c20
  have H' := Aside0.mk H
  clear H
  have hnb21 := NB515_514.out
  have hnc21 := NB514_515.out
  obtain ⟨hcz22_0, hfz22_0⟩ := cz1_ BK515.out
  have p518 : 0 ≤ ((ji17) : Int) := of_decide_eq_true dg_
  have q518 : (ji17) < (l1_0.length : Int) := of_decide_eq_true dg_
  obtain ⟨ad518, e518, hx518_0⟩ := Kd.at_int HR1_0.out (ji17) p518 q518
  cases e518
  replace hx518_0 := hc_ HB hx518_0
  replace p518 := eq_true p518
  replace q518 := eq_true q518
  go_wp2
  go_roundg k2
  case measure => have := HK1.out; have := HK2.out; omega
  case rel => exact ⟨(wrap64 (x7_2 + 1)), ef_, H', ⟨by have := HK1.out; have := HK2.out; omega⟩, ⟨bq_ BK514.out⟩, ⟨bq_ BK515.out⟩, ⟨bb_ HB.out⟩⟩
 ·replace c4 := Bool.eq_false_iff.mpr c4
  subst c4
  rw [if_neg (show ¬ (false = true) by decide)] at H
  obtain rfl := Option.some.inj H
  go_enter Tryz.func48, Tryz.ntmps48
  go_wp2_with (first | ((with_reducible refine gate_dst (N := 2) rfl ?_); (try (refine gate_guard (by rfl) ?_; dsimp only)); refine box_event ?hg (N := 2) ?hd (cs := #[.int .i64 a0_0, .int .i64 a0_1, .slice A0_2 l0_2.length c0_2]) (t := 38) ?hr ?_; (case hd => rfl); (case hg => rfl); (case hr => first | (go_simp; done) | (go_simp; rfl)); intro gb514 hg w37 hbox hb; have BK514 := Aside0.mk (hbox); have GW514 := gw_ hg HB; have GE514 := gw_ hg HB; replace HB := hs_ HB hb; clear hb hbox hg) | ((with_reducible refine gate_dst (N := 3) rfl ?_); (try (refine gate_guard (by rfl) ?_; dsimp only)); refine box_event ?hg (N := 3) ?hd (cs := #[.slice A1_0 l1_0.length c1_0]) (t := 40) ?hr ?_; (case hd => rfl); (case hg => rfl); (case hr => first | (go_simp; done) | (go_simp; rfl)); intro gb515 hg w38 hbox hb; have BK515 := Aside0.mk (hbox); have GW515 := gw_ hg HB; have GE515 := gw_ hg HB; replace HB := hs_ HB hb; have NB514_515 := nl_ hg BK514; have NB515_514 := ng_ hg BK514; replace BK514 := kb_ BK514 hb; clear hb hbox hg; have hnb39 := NB514_515.out; have hnc39 := NB515_514.out; obtain ⟨hcz40_0, hcz40_1, hcz40_2, hfz40_0, hfz40_1, hfz40_2⟩ := cz3_ BK514.out; obtain ⟨hcz41_0, hfz41_0⟩ := cz1_ BK515.out) | ((with_reducible refine gate_callee (f := 79) rfl ?_); refine gm_ (some 10) Tryz.func79 #[.agg #[.int .i64 a0_0, .int .i64 a0_1, .slice A0_2 l0_2.length c0_2], .agg #[.slice A1_0 l1_0.length c1_0]] rfl ?_; (with_reducible refine (spec_l04Sized.calls k a0_0 a0_1 _ _ l0_2 _ _ l1_0 false _ ?side1 HC0_2.out ?side3 HC1_0.out A3.out).mono ?_); (case side1 => exact cb_ HR0_2.out HB.out); (case side3 => exact cb_ HR1_0.out HB.out); rintro e w42 ⟨rfl, hb⟩; refine ⟨_, rfl, ?_⟩; replace BK514 := kb_ BK514 hb; replace BK515 := kb_ BK515 hb; replace HB := hs_ HB hb; (try clear hb)))
  go_ret
  exact ⟨fin_, bb_ HB.out⟩

/-! ### spec_l08Less: function 92 -/
def spec_l08Less.f (a0_0 : Int) (a0_1 : Int) (a1_0 : Int) (a1_1 : Int) : Option (Bool) := if a0_0 < a1_0 then (some true) else (if a0_0 = a1_0 then (some (decide (a0_1 < a1_1))) else (some false))
theorem spec_l08Less.e0 {P : Prop} (h : P := by
 go_enter Tryz.func92, Tryz.ntmps92
 go_wp2_with (first | ((with_reducible refine gate_dst (N := 2) rfl ?_); refine box_event ?hg (N := 2) ?hd (cs := #[.int .i64 a0_0, .int .i64 a0_1]) (t := 98) ?hr ?_; (case hd => rfl); (case hg => rfl); (case hr => first | (go_simp; done) | (go_simp; rfl)); intro gb522 hg w_0 hbox hb; have BK522 := Aside0.mk (hbox); have GW522 := gw_ hg HB; have GE522 := gw_ hg HB; replace HB := hs_ HB hb; clear hb hbox hg) | ((with_reducible refine gate_dst (N := 3) rfl ?_); refine box_event ?hg (N := 3) ?hd (cs := #[.int .i64 a1_0, .int .i64 a1_1]) (t := 98) ?hr ?_; (case hd => rfl); (case hg => rfl); (case hr => first | (go_simp; done) | (go_simp; rfl)); intro gb523 hg w_0 hbox hb; have BK523 := Aside0.mk (hbox); have GW523 := gw_ hg HB; have GE523 := gw_ hg HB; replace HB := hs_ HB hb; have NB522_523 := nl_ hg BK522; have NB523_522 := ng_ hg BK522; replace BK522 := kb_ BK522 hb; clear hb hbox hg; have hnb_ := NB522_523.out; have hnc_ := NB523_522.out; obtain ⟨hcz_0, hcz_1, hfz_0, hfz_1⟩ := cz2_ BK522.out; obtain ⟨hcz__0, hcz__1, hfz__0, hfz__1⟩ := cz2_ BK523.out))
 go_ret
 exact ⟨fin_, bb_ HB.out⟩) : P := h
theorem spec_l08Less.calls (a0_0 : Int) (a0_1 : Int) (a1_0 : Int) (a1_1 : Int) (r : Bool) (w : World) (h : spec_l08Less.f a0_0 a0_1 a1_0 a1_1 = some r) :
  Calls Tryz.prog 92 #[.agg #[.int .i64 a0_0, .int .i64 a0_1], .agg #[.int .i64 a1_0, .int .i64 a1_1]] w fun e w' => e = .returned (.bool r) ∧ Below w.heap.size w w' := by
 have hu98 := Tryz.underlying98
 have HB := Aside0.mk (Below.refl w.heap.size w)
 have H : (if a0_0 < a1_0 then (some true) else (if a0_0 = a1_0 then (some (decide (a0_1 < a1_1))) else (some false))) = some r := h
 clear h
 by_cases c3 : a0_0 < a1_0
 ·rw [if_pos c3] at H
  have c3b0 : decide (a0_0 < a1_0) = true := decide_eq_true c3
  clear c3
  obtain rfl := Option.some.inj H
  exact spec_l08Less.e0
 ·rw [if_neg c3] at H
  have c3b0 : decide (a0_0 < a1_0) = false := decide_eq_false c3
  clear c3
  by_cases c9 : a0_0 = a1_0
  ·rw [if_pos c9] at H
   have c9b0 : (a0_0 == a1_0) = true := beq_iff_eq.mpr c9
   have c9b1 : (a0_0 != a1_0) = false := bne_eq_false_iff_eq.mpr c9
   clear c9
   obtain rfl := Option.some.inj H
   exact spec_l08Less.e0
  ·rw [if_neg c9] at H
   have c9b0 : (a0_0 == a1_0) = false := beq_eq_false_iff_ne.mpr c9
   have c9b1 : (a0_0 != a1_0) = true := bne_iff_ne.mpr c9
   obtain rfl := Option.some.inj H
   exact spec_l08Less.e0

end Go.Proofs.YtimdefbpoddoaaaGreat.PFnVerdicts
-- thin
