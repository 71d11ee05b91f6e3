/- The law's functions as plain functions, and their calls. No condition. -/
import Derived.Test.YtimdefbpoddoaaaGreatPFnExactCheckClassesx0
import Derived.Test.YtimdefbpoddoaaaGreatPFnExactCheckClassesx4
import Derived.Test.YtimdefbpoddoaaaGreatPFnExactCheckClassesx8
import Derived.Test.YtimdefbpoddoaaaGreatPFnExactCheckClassesx10
import Derived.Test.YtimdefbpoddoaaaGreatPFnExactCheckClassesx11
import Derived.Test.YtimdefbpoddoaaaGreatPFnExactCheckClassesx12
namespace Go.Proofs.YtimdefbpoddoaaaGreat.PFnExactCheckClasses
open Go.RowKit Go.Proofs.YtimdefbpoddoaaaGreatW.PrintWords Go.Proofs.YtimdefbpoddoaaaGreatW.PrintLast Go.Proofs.YtimdefbpoddoaaaGreatW.PrintMore
attribute [local go_sem] max2_int min2_int max_two min_two max_three min_three max_four min_four
set_option linter.unusedVariables false
set_option maxHeartbeats 8000000
set_option maxRecDepth 100000
set_option linter.unusedSimpArgs false

/-! ### spec_ShortestCycle: function 30 -/
mutual
def spec_ShortestCycle.l0 : Nat → List (S98) → List Int → Int → Int → Int → Option (List Int)
 | 0, _, _, _, _, _ => none
 | k + 1, x0, x3, x4, x5, x6 => if x6 < 128 then ((spec_SuccessorsOf.f k x0 x6).bind fun t345 => (if (t345.length : Int) = 0 then (spec_ShortestCycle.l0 k x0 x3 x4 x5 (wrap64 (x6 + 1))) else ((spec_l10Depths.f k x0 x6).bind fun t348 => (if 0 ≤ x6 then (if x6 < (t348.length : Int) then (if (rd t348 x6) > 0 then (if x4 = 0 then (spec_ShortestCycle.l0 k x0 x3 (rd t348 x6) x6 (wrap64 (x6 + 1))) else (if (rd t348 x6) < x4 then (spec_ShortestCycle.l0 k x0 x3 (rd t348 x6) x6 (wrap64 (x6 + 1))) else (spec_ShortestCycle.l0 k x0 x3 x4 x5 (wrap64 (x6 + 1))))) else (spec_ShortestCycle.l0 k x0 x3 x4 x5 (wrap64 (x6 + 1)))) else (none)) else (none))))) else (spec_ShortestCycle.l1 k x0 x3 x4 x5 x5 0)
def spec_ShortestCycle.l1 : Nat → List (S98) → List Int → Int → Int → Int → Int → Option (List Int)
 | 0, _, _, _, _, _, _ => none
 | k + 1, x0, x3, x4, x5, x8, x9 => if x9 < x4 then (if x3.length < 17592186044416 then ((spec_SuccessorsOf.f k x0 x8).bind fun t355 => (spec_ShortestCycle.l2 k x0 (x3 ++ [x8]) x4 x5 x8 x9 t355 0)) else (none)) else (some x3)
def spec_ShortestCycle.l2 : Nat → List (S98) → List Int → Int → Int → Int → Int → List Int → Int → Option (List Int)
 | 0, _, _, _, _, _, _, _, _ => none
 | k + 1, x0, x3, x4, x5, x8, x9, x10, x11 => if x11 < (x10.length : Int) then (if (wrap64 ((wrap64 (x4 - x9)) - 1)) = 0 then (if 0 ≤ x11 then (if (rd x10 x11) = x5 then (spec_ShortestCycle.l1 k x0 x3 x4 x5 (rd x10 x11) (wrap64 (x9 + 1))) else (if (wrap64 ((wrap64 (x4 - x9)) - 1)) > 0 then ((spec_l10Depths.f k x0 (rd x10 x11)).bind fun t362 => (if 0 ≤ x5 then (if x5 < (t362.length : Int) then (if (rd t362 x5) = (wrap64 ((wrap64 (x4 - x9)) - 1)) then (spec_ShortestCycle.l1 k x0 x3 x4 x5 (rd x10 x11) (wrap64 (x9 + 1))) else (spec_ShortestCycle.l2 k x0 x3 x4 x5 x8 x9 x10 (wrap64 (x11 + 1)))) else (none)) else (none))) else (spec_ShortestCycle.l2 k x0 x3 x4 x5 x8 x9 x10 (wrap64 (x11 + 1))))) else (none)) else (if (wrap64 ((wrap64 (x4 - x9)) - 1)) > 0 then (if 0 ≤ x11 then (if (rd x10 x11) = x5 then (spec_ShortestCycle.l2 k x0 x3 x4 x5 x8 x9 x10 (wrap64 (x11 + 1))) else ((spec_l10Depths.f k x0 (rd x10 x11)).bind fun t369 => (if 0 ≤ x5 then (if x5 < (t369.length : Int) then (if (rd t369 x5) = (wrap64 ((wrap64 (x4 - x9)) - 1)) then (spec_ShortestCycle.l1 k x0 x3 x4 x5 (rd x10 x11) (wrap64 (x9 + 1))) else (spec_ShortestCycle.l2 k x0 x3 x4 x5 x8 x9 x10 (wrap64 (x11 + 1)))) else (none)) else (none)))) else (none)) else (spec_ShortestCycle.l2 k x0 x3 x4 x5 x8 x9 x10 (wrap64 (x11 + 1))))) else (spec_ShortestCycle.l1 k x0 x3 x4 x5 x8 (wrap64 (x9 + 1)))
end
def spec_ShortestCycle.f (k : Nat) (l0 : List (S98)) : Option (List Int) := (some (([] : List Int) : List Int)).bind fun y341 => ((spec_DependsOk.f k l0).bind fun t344 => (if t344 = true then (spec_ShortestCycle.l0 k l0 y341 0 (-1) 0) else (some y341)))
theorem spec_ShortestCycle.mono_l : ∀ k, (∀ y0 y1 y2 y3 y4, LeO (spec_ShortestCycle.l0 k y0 y1 y2 y3 y4) (spec_ShortestCycle.l0 (k + 1) y0 y1 y2 y3 y4)) ∧ (∀ y0 y1 y2 y3 y4 y5, LeO (spec_ShortestCycle.l1 k y0 y1 y2 y3 y4 y5) (spec_ShortestCycle.l1 (k + 1) y0 y1 y2 y3 y4 y5)) ∧ (∀ y0 y1 y2 y3 y4 y5 y6 y7, LeO (spec_ShortestCycle.l2 k y0 y1 y2 y3 y4 y5 y6 y7) (spec_ShortestCycle.l2 (k + 1) y0 y1 y2 y3 y4 y5 y6 y7))
 | 0 => ⟨fun _ _ _ _ _ r h => by simp [spec_ShortestCycle.l0] at h, fun _ _ _ _ _ _ r h => by simp [spec_ShortestCycle.l1] at h, fun _ _ _ _ _ _ _ _ r h => by simp [spec_ShortestCycle.l2] at h⟩
 | k + 1 => by
  obtain ⟨ih0, ih1, ih2⟩ := spec_ShortestCycle.mono_l k
  refine ⟨?_, ?_, ?_⟩
  ·intro y0 y1 y2 y3 y4
   unfold spec_ShortestCycle.l0
   repeat' (with_reducible first | exact ih0 .. | exact ih1 .. | exact ih2 .. | exact spec_DependsOk.mono .. | exact spec_SuccessorsOf.mono .. | exact spec_l10Depths.mono .. | exact LeO.refl .. | exact LeO.none .. | refine LeO.ite ?_ ?_ | refine LeO.bind ?_ (fun _ => ?_))
  ·intro y0 y1 y2 y3 y4 y5
   unfold spec_ShortestCycle.l1
   repeat' (with_reducible first | exact ih0 .. | exact ih1 .. | exact ih2 .. | exact spec_DependsOk.mono .. | exact spec_SuccessorsOf.mono .. | exact spec_l10Depths.mono .. | exact LeO.refl .. | exact LeO.none .. | refine LeO.ite ?_ ?_ | refine LeO.bind ?_ (fun _ => ?_))
  ·intro y0 y1 y2 y3 y4 y5 y6 y7
   unfold spec_ShortestCycle.l2
   repeat' (with_reducible first | exact ih0 .. | exact ih1 .. | exact ih2 .. | exact spec_DependsOk.mono .. | exact spec_SuccessorsOf.mono .. | exact spec_l10Depths.mono .. | exact LeO.refl .. | exact LeO.none .. | refine LeO.ite ?_ ?_ | refine LeO.bind ?_ (fun _ => ?_))
theorem spec_ShortestCycle.mono : ∀ a0 k, LeO (spec_ShortestCycle.f k a0) (spec_ShortestCycle.f (k + 1) a0) := by
 intro a0 k
 obtain ⟨ih0, ih1, ih2⟩ := spec_ShortestCycle.mono_l k
 unfold spec_ShortestCycle.f
 repeat' (with_reducible first | exact ih0 .. | exact ih1 .. | exact ih2 .. | exact spec_DependsOk.mono .. | exact spec_SuccessorsOf.mono .. | exact spec_l10Depths.mono .. | exact LeO.refl .. | exact LeO.none .. | refine LeO.ite ?_ ?_ | refine LeO.bind ?_ (fun _ => ?_))
theorem spec_ShortestCycle.e0 {P : Prop} (h : P := by
 go_wp2_with (first | ((with_reducible refine gate_callee (f := 62) rfl ?_); refine gm_ (some 24) Tryz.func62 #[.slice A0 l0.length c0, .int .i64 x6_1] rfl ?_; (with_reducible refine (spec_SuccessorsOf.calls k1 _ _ l0 x6_1 t345 _ ?side1 HC0.out A8.out).mono ?_); (case side1 => exact cb_ HR0.out HB.out); rintro e w_0 ⟨v346, rfl, ho0, hb⟩; refine ⟨_, rfl, ?_⟩; have HO347 := Aside0.mk (Kd.R_lower (Kd.R_new' ho0 (rl_ HO_3.out)) (bz_ HB.out)); replace HO_3 := re_ HO_3 ho0 hb; replace HB := hs_ HB hb; (try clear hb); (try clear ho0); obtain ⟨Ao11, co11, eo11⟩ := Kd.R_slice HO347.out; subst eo11) | ((with_reducible refine gate_callee (f := 62) rfl ?_); refine gm_ (some 24) Tryz.func62 #[.slice A0 l0.length c0, .int .i64 x6_1] rfl ?_; (with_reducible refine (spec_SuccessorsOf.calls k1 _ _ l0 x6_1 t345 _ ?side1 HC0.out A8.out).mono ?_); (case side1 => exact cb_ HR0.out HB.out); rintro e w_0 ⟨v346, rfl, ho0, hb⟩; refine ⟨_, rfl, ?_⟩; have HO347 := Aside0.mk (Kd.R_lower (Kd.R_new' ho0 (rl_ HO_3.out)) (bz_ HB.out)); replace HO_3 := re_ HO_3 ho0 hb; replace HB := hs_ HB hb; (try clear hb); (try clear ho0); obtain ⟨Ao27, co27, eo27⟩ := Kd.R_slice HO347.out; subst eo27) | ((with_reducible refine gate_callee (f := 63) rfl ?_); refine gm_ (some 29) Tryz.func63 #[.slice A0 l0.length c0, .int .i64 x6_1] rfl ?_; (with_reducible refine (spec_l10Depths.calls k1 _ _ l0 x6_1 t348 _ ?side1 HC0.out A12.out).mono ?_); (case side1 => exact cb_ HR0.out HB.out); rintro e w_0 ⟨v349, rfl, ho0, hb⟩; refine ⟨_, rfl, ?_⟩; have HO350 := Aside0.mk (Kd.R_lower (Kd.R_new' (Kd.R_new' ho0 (rl_ HO_3.out)) (rl_ HO347.out)) (bz_ HB.out)); replace HO_3 := re_ HO_3 ho0 hb; replace HO347 := re_ HO347 ho0 hb; replace HB := hs_ HB hb; (try clear hb); (try clear ho0); obtain ⟨Ao29, co29, eo29⟩ := Kd.R_slice HO350.out; subst eo29; have p351 : 0 ≤ (x6_1 : Int) := of_decide_eq_true dg_; have q351 : x6_1 < (t348.length : Int) := of_decide_eq_true dg_; obtain ⟨ad351, e351, hx351_0⟩ := Kd.at_int (Kd.R_reads' HO350.out).2.2 x6_1 p351 q351; cases e351; replace p351 := eq_true p351; replace q351 := eq_true q351) | ((with_reducible refine gate_callee (f := 62) rfl ?_); refine gm_ (some 24) Tryz.func62 #[.slice A0 l0.length c0, .int .i64 x6_1] rfl ?_; (with_reducible refine (spec_SuccessorsOf.calls k1 _ _ l0 x6_1 t345 _ ?side1 HC0.out A8.out).mono ?_); (case side1 => exact cb_ HR0.out HB.out); rintro e w_0 ⟨v346, rfl, ho0, hb⟩; refine ⟨_, rfl, ?_⟩; have HO347 := Aside0.mk (Kd.R_lower (Kd.R_new' ho0 (rl_ HO_3.out)) (bz_ HB.out)); replace HO_3 := re_ HO_3 ho0 hb; replace HB := hs_ HB hb; (try clear hb); (try clear ho0); obtain ⟨Ao31, co31, eo31⟩ := Kd.R_slice HO347.out; subst eo31) | ((with_reducible refine gate_callee (f := 63) rfl ?_); refine gm_ (some 29) Tryz.func63 #[.slice A0 l0.length c0, .int .i64 x6_1] rfl ?_; (with_reducible refine (spec_l10Depths.calls k1 _ _ l0 x6_1 t348 _ ?side1 HC0.out A12.out).mono ?_); (case side1 => exact cb_ HR0.out HB.out); rintro e w_0 ⟨v349, rfl, ho0, hb⟩; refine ⟨_, rfl, ?_⟩; have HO350 := Aside0.mk (Kd.R_lower (Kd.R_new' (Kd.R_new' ho0 (rl_ HO_3.out)) (rl_ HO347.out)) (bz_ HB.out)); replace HO_3 := re_ HO_3 ho0 hb; replace HO347 := re_ HO347 ho0 hb; replace HB := hs_ HB hb; (try clear hb); (try clear ho0); obtain ⟨Ao33, co33, eo33⟩ := Kd.R_slice HO350.out; subst eo33; have p351 : 0 ≤ (x6_1 : Int) := of_decide_eq_true dg_; have q351 : x6_1 < (t348.length : Int) := of_decide_eq_true dg_; obtain ⟨ad351, e351, hx351_0⟩ := Kd.at_int (Kd.R_reads' HO350.out).2.2 x6_1 p351 q351; cases e351; replace p351 := eq_true p351; replace q351 := eq_true q351))
 go_roundg k1
 case measure => have := HK1.out; omega
 case rel => exact ⟨(x4_1), (x5_1), (wrap64 (x6_1 + 1)), ef_, ef_, ef_, H', ⟨by have := HK1.out; omega⟩, ⟨by (with_reducible repeat (first | apply Kd.R_alloc | apply Kd.R_drewN | apply Kd.R_drew)); exact Kd.R_mono HO_3.out (fun _ hk => trivial)⟩, ⟨bb_ HB.out⟩⟩) : P := h
theorem spec_ShortestCycle.e1 {P : Prop} (h : P := by
 go_wp2_with (first | ((with_reducible refine gate_callee (f := 62) rfl ?_); refine gm_ (some 24) Tryz.func62 #[.slice A0 l0.length c0, .int .i64 x6_1] rfl ?_; (with_reducible refine (spec_SuccessorsOf.calls k1 _ _ l0 x6_1 t345 _ ?side1 HC0.out A8.out).mono ?_); (case side1 => exact cb_ HR0.out HB.out); rintro e w_0 ⟨v346, rfl, ho0, hb⟩; refine ⟨_, rfl, ?_⟩; have HO347 := Aside0.mk (Kd.R_lower (Kd.R_new' ho0 (rl_ HO_3.out)) (bz_ HB.out)); replace HO_3 := re_ HO_3 ho0 hb; replace HB := hs_ HB hb; (try clear hb); (try clear ho0); obtain ⟨Ao18, co18, eo18⟩ := Kd.R_slice HO347.out; subst eo18) | ((with_reducible refine gate_callee (f := 63) rfl ?_); refine gm_ (some 29) Tryz.func63 #[.slice A0 l0.length c0, .int .i64 x6_1] rfl ?_; (with_reducible refine (spec_l10Depths.calls k1 _ _ l0 x6_1 t348 _ ?side1 HC0.out A12.out).mono ?_); (case side1 => exact cb_ HR0.out HB.out); rintro e w_0 ⟨v349, rfl, ho0, hb⟩; refine ⟨_, rfl, ?_⟩; have HO350 := Aside0.mk (Kd.R_lower (Kd.R_new' (Kd.R_new' ho0 (rl_ HO_3.out)) (rl_ HO347.out)) (bz_ HB.out)); replace HO_3 := re_ HO_3 ho0 hb; replace HO347 := re_ HO347 ho0 hb; replace HB := hs_ HB hb; (try clear hb); (try clear ho0); obtain ⟨Ao20, co20, eo20⟩ := Kd.R_slice HO350.out; subst eo20; have p351 : 0 ≤ (x6_1 : Int) := of_decide_eq_true dg_; have q351 : x6_1 < (t348.length : Int) := of_decide_eq_true dg_; obtain ⟨ad351, e351, hx351_0⟩ := Kd.at_int (Kd.R_reads' HO350.out).2.2 x6_1 p351 q351; cases e351; replace p351 := eq_true p351; replace q351 := eq_true q351) | ((with_reducible refine gate_callee (f := 62) rfl ?_); refine gm_ (some 24) Tryz.func62 #[.slice A0 l0.length c0, .int .i64 x6_1] rfl ?_; (with_reducible refine (spec_SuccessorsOf.calls k1 _ _ l0 x6_1 t345 _ ?side1 HC0.out A8.out).mono ?_); (case side1 => exact cb_ HR0.out HB.out); rintro e w_0 ⟨v346, rfl, ho0, hb⟩; refine ⟨_, rfl, ?_⟩; have HO347 := Aside0.mk (Kd.R_lower (Kd.R_new' ho0 (rl_ HO_3.out)) (bz_ HB.out)); replace HO_3 := re_ HO_3 ho0 hb; replace HB := hs_ HB hb; (try clear hb); (try clear ho0); obtain ⟨Ao23, co23, eo23⟩ := Kd.R_slice HO347.out; subst eo23) | ((with_reducible refine gate_callee (f := 63) rfl ?_); refine gm_ (some 29) Tryz.func63 #[.slice A0 l0.length c0, .int .i64 x6_1] rfl ?_; (with_reducible refine (spec_l10Depths.calls k1 _ _ l0 x6_1 t348 _ ?side1 HC0.out A12.out).mono ?_); (case side1 => exact cb_ HR0.out HB.out); rintro e w_0 ⟨v349, rfl, ho0, hb⟩; refine ⟨_, rfl, ?_⟩; have HO350 := Aside0.mk (Kd.R_lower (Kd.R_new' (Kd.R_new' ho0 (rl_ HO_3.out)) (rl_ HO347.out)) (bz_ HB.out)); replace HO_3 := re_ HO_3 ho0 hb; replace HO347 := re_ HO347 ho0 hb; replace HB := hs_ HB hb; (try clear hb); (try clear ho0); obtain ⟨Ao25, co25, eo25⟩ := Kd.R_slice HO350.out; subst eo25; have p351 : 0 ≤ (x6_1 : Int) := of_decide_eq_true dg_; have q351 : x6_1 < (t348.length : Int) := of_decide_eq_true dg_; obtain ⟨ad351, e351, hx351_0⟩ := Kd.at_int (Kd.R_reads' HO350.out).2.2 x6_1 p351 q351; cases e351; replace p351 := eq_true p351; replace q351 := eq_true q351))
 go_roundg k1
 case measure => have := HK1.out; omega
 case rel => exact ⟨(rd t348 x6_1), (x6_1), (wrap64 (x6_1 + 1)), ef_, ef_, ef_, H', ⟨by have := HK1.out; omega⟩, ⟨by (with_reducible repeat (first | apply Kd.R_alloc | apply Kd.R_drewN | apply Kd.R_drew)); exact Kd.R_mono HO_3.out (fun _ hk => trivial)⟩, ⟨bb_ HB.out⟩⟩) : P := h
theorem spec_ShortestCycle.e2 {P : Prop} (h : P := by
 go_wp2_with (first | (go_at_call 63; (with_reducible refine (spec_l10Depths.calls k3 _ _ l0 (rd t355 x11_3) t362 _ ?side1 HC0.out A45.out).mono ?_); (case side1 => exact cb_ HR0.out HB.out); rintro e w_0 ⟨v363, rfl, ho0, hb⟩; have HO364 := Aside0.mk (Kd.R_lower (Kd.R_new' (Kd.R_new' ho0 (rl_ HO_3.out)) (rl_ HO_10.out)) (bz_ HB.out)); replace HO_3 := re_ HO_3 ho0 hb; replace HO_10 := re_ HO_10 ho0 hb; replace HB := hs_ HB hb; (try clear hb); (try clear ho0); obtain ⟨Ao51, co51, eo51⟩ := Kd.R_slice HO364.out; subst eo51; have p365 : 0 ≤ (x5_1 : Int) := of_decide_eq_true dg_; have q365 : x5_1 < (t362.length : Int) := of_decide_eq_true dg_; obtain ⟨ad365, e365, hx365_0⟩ := Kd.at_int (Kd.R_reads' HO364.out).2.2 x5_1 p365 q365; cases e365; replace p365 := eq_true p365; replace q365 := eq_true q365; have p366 : 0 ≤ (x11_3 : Int) := of_decide_eq_true dg_; have q366 : x11_3 < (t355.length : Int) := of_decide_eq_true dg_; obtain ⟨ad366, e366, hx366_0⟩ := Kd.at_int (Kd.R_reads' HO_10.out).2.2 x11_3 p366 q366; obtain rfl : ad358 = ad366 := (by injection e366); replace p366 := eq_true p366; replace q366 := eq_true q366) | (go_at_call 63; (with_reducible refine (spec_l10Depths.calls k3 _ _ l0 (rd t355 x11_3) t369 _ ?side1 HC0.out A60.out).mono ?_); (case side1 => exact cb_ HR0.out HB.out); rintro e w_0 ⟨v370, rfl, ho0, hb⟩; have HO371 := Aside0.mk (Kd.R_lower (Kd.R_new' (Kd.R_new' ho0 (rl_ HO_3.out)) (rl_ HO_10.out)) (bz_ HB.out)); replace HO_3 := re_ HO_3 ho0 hb; replace HO_10 := re_ HO_10 ho0 hb; replace HB := hs_ HB hb; (try clear hb); (try clear ho0); obtain ⟨Ao66, co66, eo66⟩ := Kd.R_slice HO371.out; subst eo66; have p372 : 0 ≤ (x5_1 : Int) := of_decide_eq_true dg_; have q372 : x5_1 < (t369.length : Int) := of_decide_eq_true dg_; obtain ⟨ad372, e372, hx372_0⟩ := Kd.at_int (Kd.R_reads' HO371.out).2.2 x5_1 p372 q372; cases e372; replace p372 := eq_true p372; replace q372 := eq_true q372; have p373 : 0 ≤ (x11_3 : Int) := of_decide_eq_true dg_; have q373 : x11_3 < (t355.length : Int) := of_decide_eq_true dg_; obtain ⟨ad373, e373, hx373_0⟩ := Kd.at_int (Kd.R_reads' HO_10.out).2.2 x11_3 p373 q373; obtain rfl : ad367 = ad373 := (by injection e373); replace p373 := eq_true p373; replace q373 := eq_true q373))
 go_roundg k3
 case measure => have := HK1.out; have := HK2.out; have := HK3.out; omega
 case rel => exact ⟨(y352), (rd t355 x11_3), (wrap64 (x9_2 + 1)), ef_, ef_, H', ⟨by have := HK1.out; have := HK2.out; have := HK3.out; omega⟩, ⟨by (with_reducible repeat (first | apply Kd.R_alloc | apply Kd.R_drewN | apply Kd.R_drew)); exact Kd.R_mono HO_3.out (fun _ hk => trivial)⟩, ⟨bb_ HB.out⟩⟩) : P := h
theorem spec_ShortestCycle.e3 {P : Prop} (h : P := by
 go_wp2_with (first | (go_at_call 63; (with_reducible refine (spec_l10Depths.calls k3 _ _ l0 (rd t355 x11_3) t362 _ ?side1 HC0.out A45.out).mono ?_); (case side1 => exact cb_ HR0.out HB.out); rintro e w_0 ⟨v363, rfl, ho0, hb⟩; have HO364 := Aside0.mk (Kd.R_lower (Kd.R_new' (Kd.R_new' ho0 (rl_ HO_3.out)) (rl_ HO_10.out)) (bz_ HB.out)); replace HO_3 := re_ HO_3 ho0 hb; replace HO_10 := re_ HO_10 ho0 hb; replace HB := hs_ HB hb; (try clear hb); (try clear ho0); obtain ⟨Ao54, co54, eo54⟩ := Kd.R_slice HO364.out; subst eo54; have p365 : 0 ≤ (x5_1 : Int) := of_decide_eq_true dg_; have q365 : x5_1 < (t362.length : Int) := of_decide_eq_true dg_; obtain ⟨ad365, e365, hx365_0⟩ := Kd.at_int (Kd.R_reads' HO364.out).2.2 x5_1 p365 q365; cases e365; replace p365 := eq_true p365; replace q365 := eq_true q365) | (go_at_call 63; (with_reducible refine (spec_l10Depths.calls k3 _ _ l0 (rd t355 x11_3) t369 _ ?side1 HC0.out A60.out).mono ?_); (case side1 => exact cb_ HR0.out HB.out); rintro e w_0 ⟨v370, rfl, ho0, hb⟩; have HO371 := Aside0.mk (Kd.R_lower (Kd.R_new' (Kd.R_new' ho0 (rl_ HO_3.out)) (rl_ HO_10.out)) (bz_ HB.out)); replace HO_3 := re_ HO_3 ho0 hb; replace HO_10 := re_ HO_10 ho0 hb; replace HB := hs_ HB hb; (try clear hb); (try clear ho0); obtain ⟨Ao69, co69, eo69⟩ := Kd.R_slice HO371.out; subst eo69; have p372 : 0 ≤ (x5_1 : Int) := of_decide_eq_true dg_; have q372 : x5_1 < (t369.length : Int) := of_decide_eq_true dg_; obtain ⟨ad372, e372, hx372_0⟩ := Kd.at_int (Kd.R_reads' HO371.out).2.2 x5_1 p372 q372; cases e372; replace p372 := eq_true p372; replace q372 := eq_true q372))
 go_roundg k3
 case measure => have := HK1.out; have := HK2.out; have := HK3.out; omega
 case rel => exact ⟨(x8_3), (wrap64 (x11_3 + 1)), ef_, ef_, H', ⟨by have := HK1.out; have := HK2.out; have := HK3.out; omega⟩, ⟨by (with_reducible repeat (first | apply Kd.R_alloc | apply Kd.R_drewN | apply Kd.R_drew)); exact Kd.R_mono HO_3.out (fun _ hk => hk.1)⟩, ⟨by (with_reducible repeat (first | apply Kd.R_alloc | apply Kd.R_drewN | apply Kd.R_drew)); exact Kd.R_mono HO_10.out (fun _ hk => hk.1)⟩, ⟨bb_ HB.out⟩⟩) : P := h
theorem spec_ShortestCycle.e4 {P : Prop} (h : P := by
 go_wp2
 go_roundg k3
 case measure => have := HK1.out; have := HK2.out; have := HK3.out; omega
 case rel => exact ⟨(x8_3), (wrap64 (x11_3 + 1)), ef_, ef_, H', ⟨by have := HK1.out; have := HK2.out; have := HK3.out; omega⟩, ⟨ra_ HO_3.out⟩, ⟨ra_ HO_10.out⟩, ⟨bb_ HB.out⟩⟩) : P := h
theorem spec_ShortestCycle.calls (k : Nat) (A0 : Option Addr) (c0 : Nat) (l0 : List (S98)) (r : List Int) (w : World) (hr0 : Kd.C k98 w A0 l0.length l0) (hc0 : l0.length ≤ c0) (h : spec_ShortestCycle.f k l0 = some r) :
  Calls Tryz.prog 30 #[.slice A0 l0.length c0] w fun e w' => ∃ v0_ : Value, e = .returned (v0_) ∧ Kd.R (Kd.int .i64) 3 w' w.heap.size (fun _ => True) v0_ r ∧ Below w.heap.size w w' := by
 have HR0 := Aside0.mk hr0
 have HC0 := Aside0.mk hc0
 clear hr0 hc0
 have HB := Aside0.mk (Below.refl w.heap.size w)
 have H : ((some (([] : List Int) : List Int)).bind fun y341 => ((spec_DependsOk.f k l0).bind fun t344 => (if t344 = true then (spec_ShortestCycle.l0 k l0 y341 0 (-1) 0) else (some y341)))) = some r := h
 clear h
 obtain ⟨y341, Ny341, H⟩ := bo_ H
 obtain ⟨t344, A2, H⟩ := bi_ H
 by_cases c3 : t344 = true
 ·subst c3
  rw [if_pos rfl] at H
  have H' := Aside0.mk H
  clear H
  go_enter Tryz.func30, Tryz.ntmps30
  go_wp2_with (first | ((with_reducible refine gate_dst (N := 13) rfl ?_); refine Kd.R_lit (Kd.int .i64) _ 3 ?hg (N := 13) ?hd (xs := ([] : List Int)) (inner := []) (ok := fun _ => True) (okp := fun _ => True) ?hr ?hp (fun _ hk => hk) trivial (Below.refl _ _) (Nat.le_refl _) (by simp) ?_; (case hd => rfl); (case hg => rfl); (case hr => first | (go_simp; done) | (go_simp; rfl)); (case hp => exact (Reps.none _ _)); intro v342 w4 ho5 hb hg_ hnew_; clear hg_ hnew_; (first | rw [← Ny341.out] at ho5 | (simp only [Int.reduceToNat] at ho5; rw [← Ny341.out] at ho5)); have HO343 := Aside0.mk (Kd.R_lower ho5 (bz_ HB.out)); replace HB := hs_ HB hb; clear hb ho5) | ((with_reducible refine gate_callee (f := 60) rfl ?_); refine gm_ (some 15) Tryz.func60 #[.slice A0 l0.length c0] rfl ?_; (with_reducible refine (spec_DependsOk.calls k _ _ l0 true _ ?side1 HC0.out A2.out).mono ?_); (case side1 => exact cb_ HR0.out HB.out); rintro e w6 ⟨rfl, hb⟩; refine ⟨_, rfl, ?_⟩; replace HO343 := rb_ HO343 hb; replace HB := hs_ HB hb; (try clear hb)))
  go_loopg [4, 5, 6] k (fun kq v4 v5 v6 w' => ∃ (x4_1 : Int) (x5_1 : Int) (x6_1 : Int), v4 = .int .i64 x4_1 ∧ v5 = .int .i64 x5_1 ∧ v6 = .int .i64 x6_1 ∧ Aside0 (spec_ShortestCycle.l0 kq l0 y341 x4_1 x5_1 x6_1 = some r) ∧ Aside0 (kq ≤ k) ∧ Aside0 (Kd.R (Kd.int .i64) 3 w' w.heap.size (fun _ => True) v342 y341) ∧ Aside0 (Below w.heap.size w w'))
  case atStart => exact ⟨(0), ((-1)), (0), ef_, ef_, ef_, H', ⟨Nat.le_refl _⟩, ⟨ra_ HO343.out⟩, ⟨bb_ HB.out⟩⟩
  clear H'
  try clear c3
  obtain ⟨x4_1, x5_1, x6_1, rfl, rfl, rfl, HA, HK1, HO_3, HB⟩ := hrel
  obtain _ | k1 := gk
  ·exact absurd HA.out (by simp [spec_ShortestCycle.l0])
  have H := HA.out
  clear HA
  simp only [spec_ShortestCycle.l0] at H
  by_cases c7 : x6_1 < 128
  ·rw [if_pos c7] at H
   have c7b0 : decide (x6_1 < 128) = true := decide_eq_true c7
   clear c7
   obtain ⟨t345, A8, H⟩ := bi_ H
   by_cases c9 : (t345.length : Int) = 0
   ·rw [if_pos c9] at H
    have c9b0 : ((t345.length : Int) == 0) = true := beq_iff_eq.mpr c9
    have c9b1 : ((t345.length : Int) != 0) = false := bne_eq_false_iff_eq.mpr c9
    clear c9
    have H' := Aside0.mk H
    clear H
    exact spec_ShortestCycle.e0
   rw [if_neg c9] at H
   have c9b0 : ((t345.length : Int) == 0) = false := beq_eq_false_iff_ne.mpr c9
   have c9b1 : ((t345.length : Int) != 0) = true := bne_iff_ne.mpr c9
   have c9b2 : ¬ (t345 = []) := fun h_ => c9 (by rw [h_]; rfl)
   obtain ⟨t348, A12, H⟩ := bi_ H
   by_cases c13 : 0 ≤ x6_1
   rotate_left
   ·rw [if_neg c13] at H
    exact absurd H (by simp)
   rw [if_pos c13] at H
   have c13b0 : decide (0 ≤ x6_1) = true := decide_eq_true c13
   clear c13
   by_cases c14 : x6_1 < (t348.length : Int)
   rotate_left
   ·rw [if_neg c14] at H
    exact absurd H (by simp)
   rw [if_pos c14] at H
   have c14b0 : decide (x6_1 < (t348.length : Int)) = true := decide_eq_true c14
   clear c14
   by_cases c15 : (rd t348 x6_1) > 0
   rotate_left
   ·rw [if_neg c15] at H
    have c15b0 : decide (0 < (rd t348 x6_1)) = false := decide_eq_false c15
    clear c15
    have H' := Aside0.mk H
    clear H
    exact spec_ShortestCycle.e0
   rw [if_pos c15] at H
   have c15b0 : decide (0 < (rd t348 x6_1)) = true := decide_eq_true c15
   clear c15
   by_cases c16 : x4_1 = 0
   ·rw [if_pos c16] at H
    have c16b0 : (x4_1 == 0) = true := beq_iff_eq.mpr c16
    have c16b1 : (x4_1 != 0) = false := bne_eq_false_iff_eq.mpr c16
    clear c16
    have H' := Aside0.mk H
    clear H
    exact spec_ShortestCycle.e1
   rw [if_neg c16] at H
   have c16b0 : (x4_1 == 0) = false := beq_eq_false_iff_ne.mpr c16
   have c16b1 : (x4_1 != 0) = true := bne_iff_ne.mpr c16
   by_cases c21 : (rd t348 x6_1) < x4_1
   ·rw [if_pos c21] at H
    have c21b0 : decide ((rd t348 x6_1) < x4_1) = true := decide_eq_true c21
    clear c21
    have H' := Aside0.mk H
    clear H
    exact spec_ShortestCycle.e1
   rw [if_neg c21] at H
   have c21b0 : decide ((rd t348 x6_1) < x4_1) = false := decide_eq_false c21
   clear c21
   have H' := Aside0.mk H
   clear H
   exact spec_ShortestCycle.e0
  rw [if_neg c7] at H
  have c7b0 : decide (x6_1 < 128) = false := decide_eq_false c7
  clear c7
  have H' := Aside0.mk H
  clear H
  go_wp2
  go_loopg [3, 8, 9] k1 (fun kq v3 v8 v9 w' => ∃ (x3_2 : List Int) (x8_2 : Int) (x9_2 : Int), v8 = .int .i64 x8_2 ∧ v9 = .int .i64 x9_2 ∧ Aside0 (spec_ShortestCycle.l1 kq l0 x3_2 x4_1 x5_1 x8_2 x9_2 = some r) ∧ Aside0 (kq ≤ k1) ∧ Aside0 (Kd.R (Kd.int .i64) 3 w' w.heap.size (fun _ => True) v3 x3_2) ∧ Aside0 (Below w.heap.size w w'))
  case atStart => exact ⟨(y341), (x5_1), (0), ef_, ef_, H', ⟨Nat.le_refl _⟩, ⟨ra_ HO_3.out⟩, ⟨bb_ HB.out⟩⟩
  clear H'
  try clear c3
  try clear c7
  try clear c7b0
  obtain ⟨x3_2, x8_2, x9_2, rfl, rfl, HA, HK2, HO_3, HB⟩ := hrel
  obtain _ | k2 := gk
  ·exact absurd HA.out (by simp [spec_ShortestCycle.l1])
  have H := HA.out
  clear HA
  simp only [spec_ShortestCycle.l1] at H
  by_cases c34 : x9_2 < x4_1
  rotate_left
  ·rw [if_neg c34] at H
   have c34b0 : decide (x9_2 < x4_1) = false := decide_eq_false c34
   clear c34
   obtain rfl := Option.some.inj H
   go_wp2
   go_ret
   exact ⟨_, fin_, ra_ HO_3.out, bb_ HB.out⟩
  rw [if_pos c34] at H
  have c34b0 : decide (x9_2 < x4_1) = true := decide_eq_true c34
  clear c34
  by_cases c35 : x3_2.length < 17592186044416
  rotate_left
  ·rw [if_neg c35] at H
   exact absurd H (by simp)
  rw [if_pos c35] at H
  have LMc35 := Aside0.mk c35
  clear c35
  obtain ⟨y352, hy352⟩ : ∃ y_ : List Int, y_ = (x3_2 ++ [x8_2]) := ⟨_, rfl⟩
  replace H : ((spec_SuccessorsOf.f k2 l0 x8_2).bind fun t355 => (spec_ShortestCycle.l2 k2 l0 y352 x4_1 x5_1 x8_2 x9_2 t355 0)) = some r := by first | (rw [hy352]; with_reducible exact H) | (have H2_ := (Option.bind_some _ _).symm.trans H; rw [hy352]; with_reducible exact H2_) | (have H2_ := (Option.bind_some _ _).symm.trans H; with_reducible exact H2_) | with_reducible exact H | (rw [hy352]; exact H) | exact H
  have Ny352 := Aside0.mk hy352
  clear hy352
  obtain ⟨t355, A36, H⟩ := bi_ H
  have H' := Aside0.mk H
  clear H
  go_wp2_with (first | ((with_reducible refine gate_builtin (b := .append) (xs := #[.tmp 52, .tmp 54]) rfl ?_); at_builtin; refine Kd.R_append (Kd.int .i64) (w0 := w) w.heap.size rfl (.tmp 52) (.tmp 54) 24 3 (.int .i64 0) 8 rfl Tryz.underlying24 info3 rfl (by decide) (by omega) u3 x3_2 x8_2 [.int .i64 x8_2] (fun _ => True) (fun _ => False) rfl rfl ?aP (fun _ hk => hk.elim) ?aF ?aO ?aB ?aS ?aL ?_; (case aP => exact rfl); (case aB => exact (by repeat (first | (with_reducible first | exact HB.out | apply below_alloc | apply pw_below_drewN | apply below_drew1) | exact HB.out))); (case aF => exact (fun _ _ => trivial)); (case aO => exact (ra_ HO_3.out)); (case aS => exact (bz_ HB.out)); (case aL => have := LMc35.out; omega); intro v353 w37 ho hb hg hat; rw [← Ny352.out] at ho; have n0_ := Aside0.mk (hb); have n1_ := Aside0.mk (ho); clear HB; clear HO_3; have HB := n0_; have HO354 := n1_; clear n0_ n1_; clear ho hb hg hat) | ((with_reducible refine gate_callee (f := 62) rfl ?_); refine gm_ (some 58) Tryz.func62 #[.slice A0 l0.length c0, .int .i64 x8_2] rfl ?_; (with_reducible refine (spec_SuccessorsOf.calls k2 _ _ l0 x8_2 t355 _ ?side1 HC0.out A36.out).mono ?_); (case side1 => exact cb_ HR0.out HB.out); rintro e w38 ⟨v356, rfl, ho0, hb⟩; refine ⟨_, rfl, ?_⟩; have HO357 := Aside0.mk (Kd.R_lower (Kd.R_new' ho0 (rl_ HO354.out)) (bz_ HB.out)); replace HO354 := re_ HO354 ho0 hb; replace HB := hs_ HB hb; (try clear hb); (try clear ho0)))
  go_loopg [8, 11] k2 (fun kq v8 v11 w' => ∃ (x8_3 : Int) (x11_3 : Int), v8 = .int .i64 x8_3 ∧ v11 = .int .i64 x11_3 ∧ Aside0 (spec_ShortestCycle.l2 kq l0 y352 x4_1 x5_1 x8_3 x9_2 t355 x11_3 = some r) ∧ Aside0 (kq ≤ k2) ∧ Aside0 (Kd.R (Kd.int .i64) 3 w' w.heap.size (fun k_ => some k_ ≠ (v356 : Value).ownBlock) v353 y352) ∧ Aside0 (Kd.R (Kd.int .i64) 3 w' w.heap.size (fun k_ => some k_ ≠ (v353 : Value).ownBlock) v356 t355) ∧ Aside0 (Below w.heap.size w w'))
  case atStart => exact ⟨(x8_2), (0), ef_, ef_, H', ⟨Nat.le_refl _⟩, ⟨by (with_reducible repeat (first | apply Kd.R_alloc | apply Kd.R_drewN | apply Kd.R_drew)); exact Kd.R_mono HO354.out (fun _ hk => hk.2)⟩, ⟨by (with_reducible repeat (first | apply Kd.R_alloc | apply Kd.R_drewN | apply Kd.R_drew)); exact Kd.R_mono HO357.out (fun _ hk => hk.2)⟩, ⟨bb_ HB.out⟩⟩
  clear H'
  try clear c3
  try clear c7
  try clear c7b0
  try clear c34
  try clear c34b0
  try clear c35
  obtain ⟨x8_3, x11_3, rfl, rfl, HA, HK3, HO_3, HO_10, HB⟩ := hrel
  obtain _ | k3 := gk
  ·exact absurd HA.out (by simp [spec_ShortestCycle.l2])
  have H := HA.out
  clear HA
  simp only [spec_ShortestCycle.l2] at H
  by_cases c39 : x11_3 < (t355.length : Int)
  rotate_left
  ·rw [if_neg c39] at H
   have c39b0 : decide (x11_3 < (t355.length : Int)) = false := decide_eq_false c39
   clear c39
   have H' := Aside0.mk H
   clear H
   obtain ⟨Ao71, co71, eo71⟩ := Kd.R_slice HO_10.out
   subst eo71
   go_wp2
   go_roundg k3
   case measure => have := HK1.out; have := HK2.out; have := HK3.out; omega
   case rel => exact ⟨(y352), (x8_3), (wrap64 (x9_2 + 1)), ef_, ef_, H', ⟨by have := HK1.out; have := HK2.out; have := HK3.out; omega⟩, ⟨by (with_reducible repeat (first | apply Kd.R_alloc | apply Kd.R_drewN | apply Kd.R_drew)); exact Kd.R_mono HO_3.out (fun _ hk => trivial)⟩, ⟨bb_ HB.out⟩⟩
  rw [if_pos c39] at H
  have c39b0 : decide (x11_3 < (t355.length : Int)) = true := decide_eq_true c39
  clear c39
  by_cases c40 : (wrap64 ((wrap64 (x4_1 - x9_2)) - 1)) = 0
  rotate_left
  ·rw [if_neg c40] at H
   have c40b0 : ((wrap64 ((wrap64 (x4_1 - x9_2)) - 1)) == 0) = false := beq_eq_false_iff_ne.mpr c40
   have c40b1 : ((wrap64 ((wrap64 (x4_1 - x9_2)) - 1)) != 0) = true := bne_iff_ne.mpr c40
   by_cases c56 : (wrap64 ((wrap64 (x4_1 - x9_2)) - 1)) > 0
   rotate_left
   ·rw [if_neg c56] at H
    have c56b0 : decide (0 < (wrap64 ((wrap64 (x4_1 - x9_2)) - 1))) = false := decide_eq_false c56
    clear c56
    have H' := Aside0.mk H
    clear H
    obtain ⟨Ao70, co70, eo70⟩ := Kd.R_slice HO_10.out
    subst eo70
    exact spec_ShortestCycle.e4
   rw [if_pos c56] at H
   have c56b0 : decide (0 < (wrap64 ((wrap64 (x4_1 - x9_2)) - 1))) = true := decide_eq_true c56
   clear c56
   by_cases c57 : 0 ≤ x11_3
   rotate_left
   ·rw [if_neg c57] at H
    exact absurd H (by simp)
   rw [if_pos c57] at H
   have c57b0 : decide (0 ≤ x11_3) = true := decide_eq_true c57
   clear c57
   by_cases c58 : (rd t355 x11_3) = x5_1
   ·rw [if_pos c58] at H
    have c58b0 : ((rd t355 x11_3) == x5_1) = true := beq_iff_eq.mpr c58
    have c58b1 : ((rd t355 x11_3) != x5_1) = false := bne_eq_false_iff_eq.mpr c58
    clear c58
    have H' := Aside0.mk H
    clear H
    obtain ⟨Ao59, co59, eo59⟩ := Kd.R_slice HO_10.out
    subst eo59
    have p367 : 0 ≤ (x11_3 : Int) := of_decide_eq_true dg_
    have q367 : x11_3 < (t355.length : Int) := of_decide_eq_true dg_
    obtain ⟨ad367, e367, hx367_0⟩ := Kd.at_int (Kd.R_reads' HO_10.out).2.2 x11_3 p367 q367
    cases e367
    replace p367 := eq_true p367
    replace q367 := eq_true q367
    exact spec_ShortestCycle.e4
   rw [if_neg c58] at H
   have c58b0 : ((rd t355 x11_3) == x5_1) = false := beq_eq_false_iff_ne.mpr c58
   have c58b1 : ((rd t355 x11_3) != x5_1) = true := bne_iff_ne.mpr c58
   obtain ⟨t369, A60, H⟩ := bi_ H
   by_cases c61 : 0 ≤ x5_1
   rotate_left
   ·rw [if_neg c61] at H
    exact absurd H (by simp)
   rw [if_pos c61] at H
   have c61b0 : decide (0 ≤ x5_1) = true := decide_eq_true c61
   clear c61
   by_cases c62 : x5_1 < (t369.length : Int)
   rotate_left
   ·rw [if_neg c62] at H
    exact absurd H (by simp)
   rw [if_pos c62] at H
   have c62b0 : decide (x5_1 < (t369.length : Int)) = true := decide_eq_true c62
   clear c62
   by_cases c63 : (rd t369 x5_1) = (wrap64 ((wrap64 (x4_1 - x9_2)) - 1))
   rotate_left
   ·rw [if_neg c63] at H
    have c63b0 : ((rd t369 x5_1) == (wrap64 ((wrap64 (x4_1 - x9_2)) - 1))) = false := beq_eq_false_iff_ne.mpr c63
    have c63b1 : ((rd t369 x5_1) != (wrap64 ((wrap64 (x4_1 - x9_2)) - 1))) = true := bne_iff_ne.mpr c63
    have H' := Aside0.mk H
    clear H
    obtain ⟨Ao67, co67, eo67⟩ := Kd.R_slice HO_10.out
    subst eo67
    have p367 : 0 ≤ (x11_3 : Int) := of_decide_eq_true dg_
    have q367 : x11_3 < (t355.length : Int) := of_decide_eq_true dg_
    obtain ⟨ad367, e367, hx367_0⟩ := Kd.at_int (Kd.R_reads' HO_10.out).2.2 x11_3 p367 q367
    cases e367
    replace p367 := eq_true p367
    replace q367 := eq_true q367
    have p368 : 0 ≤ (x11_3 : Int) := of_decide_eq_true dg_
    have q368 : x11_3 < (t355.length : Int) := of_decide_eq_true dg_
    obtain ⟨ad368, e368, hx368_0⟩ := Kd.at_int (Kd.R_reads' HO_10.out).2.2 x11_3 p368 q368
    obtain rfl : ad367 = ad368 := (by injection e368)
    replace p368 := eq_true p368
    replace q368 := eq_true q368
    exact spec_ShortestCycle.e3
   rw [if_pos c63] at H
   have c63b0 : ((rd t369 x5_1) == (wrap64 ((wrap64 (x4_1 - x9_2)) - 1))) = true := beq_iff_eq.mpr c63
   have c63b1 : ((rd t369 x5_1) != (wrap64 ((wrap64 (x4_1 - x9_2)) - 1))) = false := bne_eq_false_iff_eq.mpr c63
   clear c63
   have H' := Aside0.mk H
   clear H
   obtain ⟨Ao64, co64, eo64⟩ := Kd.R_slice HO_10.out
   subst eo64
   have p367 : 0 ≤ (x11_3 : Int) := of_decide_eq_true dg_
   have q367 : x11_3 < (t355.length : Int) := of_decide_eq_true dg_
   obtain ⟨ad367, e367, hx367_0⟩ := Kd.at_int (Kd.R_reads' HO_10.out).2.2 x11_3 p367 q367
   cases e367
   replace p367 := eq_true p367
   replace q367 := eq_true q367
   have p368 : 0 ≤ (x11_3 : Int) := of_decide_eq_true dg_
   have q368 : x11_3 < (t355.length : Int) := of_decide_eq_true dg_
   obtain ⟨ad368, e368, hx368_0⟩ := Kd.at_int (Kd.R_reads' HO_10.out).2.2 x11_3 p368 q368
   obtain rfl : ad367 = ad368 := (by injection e368)
   replace p368 := eq_true p368
   replace q368 := eq_true q368
   exact spec_ShortestCycle.e2
  rw [if_pos c40] at H
  have c40b0 : ((wrap64 ((wrap64 (x4_1 - x9_2)) - 1)) == 0) = true := beq_iff_eq.mpr c40
  have c40b1 : ((wrap64 ((wrap64 (x4_1 - x9_2)) - 1)) != 0) = false := bne_eq_false_iff_eq.mpr c40
  clear c40
  by_cases c41 : 0 ≤ x11_3
  rotate_left
  ·rw [if_neg c41] at H
   exact absurd H (by simp)
  rw [if_pos c41] at H
  have c41b0 : decide (0 ≤ x11_3) = true := decide_eq_true c41
  clear c41
  by_cases c42 : (rd t355 x11_3) = x5_1
  ·rw [if_pos c42] at H
   have c42b0 : ((rd t355 x11_3) == x5_1) = true := beq_iff_eq.mpr c42
   have c42b1 : ((rd t355 x11_3) != x5_1) = false := bne_eq_false_iff_eq.mpr c42
   clear c42
   have H' := Aside0.mk H
   clear H
   obtain ⟨Ao43, co43, eo43⟩ := Kd.R_slice HO_10.out
   subst eo43
   have p358 : 0 ≤ (x11_3 : Int) := of_decide_eq_true dg_
   have q358 : x11_3 < (t355.length : Int) := of_decide_eq_true dg_
   obtain ⟨ad358, e358, hx358_0⟩ := Kd.at_int (Kd.R_reads' HO_10.out).2.2 x11_3 p358 q358
   cases e358
   replace p358 := eq_true p358
   replace q358 := eq_true q358
   have p359 : 0 ≤ (x11_3 : Int) := of_decide_eq_true dg_
   have q359 : x11_3 < (t355.length : Int) := of_decide_eq_true dg_
   obtain ⟨ad359, e359, hx359_0⟩ := Kd.at_int (Kd.R_reads' HO_10.out).2.2 x11_3 p359 q359
   obtain rfl : ad358 = ad359 := (by injection e359)
   replace p359 := eq_true p359
   replace q359 := eq_true q359
   exact spec_ShortestCycle.e2
  rw [if_neg c42] at H
  have c42b0 : ((rd t355 x11_3) == x5_1) = false := beq_eq_false_iff_ne.mpr c42
  have c42b1 : ((rd t355 x11_3) != x5_1) = true := bne_iff_ne.mpr c42
  by_cases c44 : (wrap64 ((wrap64 (x4_1 - x9_2)) - 1)) > 0
  rotate_left
  ·rw [if_neg c44] at H
   have c44b0 : decide (0 < (wrap64 ((wrap64 (x4_1 - x9_2)) - 1))) = false := decide_eq_false c44
   clear c44
   have H' := Aside0.mk H
   clear H
   obtain ⟨Ao55, co55, eo55⟩ := Kd.R_slice HO_10.out
   subst eo55
   have p358 : 0 ≤ (x11_3 : Int) := of_decide_eq_true dg_
   have q358 : x11_3 < (t355.length : Int) := of_decide_eq_true dg_
   obtain ⟨ad358, e358, hx358_0⟩ := Kd.at_int (Kd.R_reads' HO_10.out).2.2 x11_3 p358 q358
   cases e358
   replace p358 := eq_true p358
   replace q358 := eq_true q358
   exact spec_ShortestCycle.e4
  rw [if_pos c44] at H
  have c44b0 : decide (0 < (wrap64 ((wrap64 (x4_1 - x9_2)) - 1))) = true := decide_eq_true c44
  clear c44
  obtain ⟨t362, A45, H⟩ := bi_ H
  by_cases c46 : 0 ≤ x5_1
  rotate_left
  ·rw [if_neg c46] at H
   exact absurd H (by simp)
  rw [if_pos c46] at H
  have c46b0 : decide (0 ≤ x5_1) = true := decide_eq_true c46
  clear c46
  by_cases c47 : x5_1 < (t362.length : Int)
  rotate_left
  ·rw [if_neg c47] at H
   exact absurd H (by simp)
  rw [if_pos c47] at H
  have c47b0 : decide (x5_1 < (t362.length : Int)) = true := decide_eq_true c47
  clear c47
  by_cases c48 : (rd t362 x5_1) = (wrap64 ((wrap64 (x4_1 - x9_2)) - 1))
  rotate_left
  ·rw [if_neg c48] at H
   have c48b0 : ((rd t362 x5_1) == (wrap64 ((wrap64 (x4_1 - x9_2)) - 1))) = false := beq_eq_false_iff_ne.mpr c48
   have c48b1 : ((rd t362 x5_1) != (wrap64 ((wrap64 (x4_1 - x9_2)) - 1))) = true := bne_iff_ne.mpr c48
   have H' := Aside0.mk H
   clear H
   obtain ⟨Ao52, co52, eo52⟩ := Kd.R_slice HO_10.out
   subst eo52
   have p358 : 0 ≤ (x11_3 : Int) := of_decide_eq_true dg_
   have q358 : x11_3 < (t355.length : Int) := of_decide_eq_true dg_
   obtain ⟨ad358, e358, hx358_0⟩ := Kd.at_int (Kd.R_reads' HO_10.out).2.2 x11_3 p358 q358
   cases e358
   replace p358 := eq_true p358
   replace q358 := eq_true q358
   have p360 : 0 ≤ (x11_3 : Int) := of_decide_eq_true dg_
   have q360 : x11_3 < (t355.length : Int) := of_decide_eq_true dg_
   obtain ⟨ad360, e360, hx360_0⟩ := Kd.at_int (Kd.R_reads' HO_10.out).2.2 x11_3 p360 q360
   obtain rfl : ad358 = ad360 := (by injection e360)
   replace p360 := eq_true p360
   replace q360 := eq_true q360
   have p361 : 0 ≤ (x11_3 : Int) := of_decide_eq_true dg_
   have q361 : x11_3 < (t355.length : Int) := of_decide_eq_true dg_
   obtain ⟨ad361, e361, hx361_0⟩ := Kd.at_int (Kd.R_reads' HO_10.out).2.2 x11_3 p361 q361
   obtain rfl : ad358 = ad361 := (by injection e361)
   replace p361 := eq_true p361
   replace q361 := eq_true q361
   exact spec_ShortestCycle.e3
  rw [if_pos c48] at H
  have c48b0 : ((rd t362 x5_1) == (wrap64 ((wrap64 (x4_1 - x9_2)) - 1))) = true := beq_iff_eq.mpr c48
  have c48b1 : ((rd t362 x5_1) != (wrap64 ((wrap64 (x4_1 - x9_2)) - 1))) = false := bne_eq_false_iff_eq.mpr c48
  clear c48
  have H' := Aside0.mk H
  clear H
  obtain ⟨Ao49, co49, eo49⟩ := Kd.R_slice HO_10.out
  subst eo49
  have p358 : 0 ≤ (x11_3 : Int) := of_decide_eq_true dg_
  have q358 : x11_3 < (t355.length : Int) := of_decide_eq_true dg_
  obtain ⟨ad358, e358, hx358_0⟩ := Kd.at_int (Kd.R_reads' HO_10.out).2.2 x11_3 p358 q358
  cases e358
  replace p358 := eq_true p358
  replace q358 := eq_true q358
  have p360 : 0 ≤ (x11_3 : Int) := of_decide_eq_true dg_
  have q360 : x11_3 < (t355.length : Int) := of_decide_eq_true dg_
  obtain ⟨ad360, e360, hx360_0⟩ := Kd.at_int (Kd.R_reads' HO_10.out).2.2 x11_3 p360 q360
  obtain rfl : ad358 = ad360 := (by injection e360)
  replace p360 := eq_true p360
  replace q360 := eq_true q360
  have p361 : 0 ≤ (x11_3 : Int) := of_decide_eq_true dg_
  have q361 : x11_3 < (t355.length : Int) := of_decide_eq_true dg_
  obtain ⟨ad361, e361, hx361_0⟩ := Kd.at_int (Kd.R_reads' HO_10.out).2.2 x11_3 p361 q361
  obtain rfl : ad358 = ad361 := (by injection e361)
  replace p361 := eq_true p361
  replace q361 := eq_true q361
  exact spec_ShortestCycle.e2
 ·replace c3 := Bool.eq_false_iff.mpr c3
  subst c3
  rw [if_neg (show ¬ (false = true) by decide)] at H
  obtain rfl := Option.some.inj H
  go_enter Tryz.func30, Tryz.ntmps30
  go_wp2_with (first | ((with_reducible refine gate_dst (N := 13) rfl ?_); refine Kd.R_lit (Kd.int .i64) _ 3 ?hg (N := 13) ?hd (xs := ([] : List Int)) (inner := []) (ok := fun _ => True) (okp := fun _ => True) ?hr ?hp (fun _ hk => hk) trivial (Below.refl _ _) (Nat.le_refl _) (by simp) ?_; (case hd => rfl); (case hg => rfl); (case hr => first | (go_simp; done) | (go_simp; rfl)); (case hp => exact (Reps.none _ _)); intro v342 w72 ho73 hb hg_ hnew_; clear hg_ hnew_; (first | rw [← Ny341.out] at ho73 | (simp only [Int.reduceToNat] at ho73; rw [← Ny341.out] at ho73)); have HO343 := Aside0.mk (Kd.R_lower ho73 (bz_ HB.out)); replace HB := hs_ HB hb; clear hb ho73) | ((with_reducible refine gate_callee (f := 60) rfl ?_); refine gm_ (some 15) Tryz.func60 #[.slice A0 l0.length c0] rfl ?_; (with_reducible refine (spec_DependsOk.calls k _ _ l0 false _ ?side1 HC0.out A2.out).mono ?_); (case side1 => exact cb_ HR0.out HB.out); rintro e w74 ⟨rfl, hb⟩; refine ⟨_, rfl, ?_⟩; replace HO343 := rb_ HO343 hb; replace HB := hs_ HB hb; (try clear hb)))
  go_ret
  exact ⟨_, fin_, ra_ HO343.out, bb_ HB.out⟩

/-! ### spec_CheckClasses: function 7 -/
def spec_CheckClasses.f (k : Nat) (a0_0 : Int) (a0_1 : Int) (l0_2 : List Int) (l1_0 : List Int) (l1_1 : List Int) : Option (Int × List Int × List Int) := (spec_ClassesOk.f k a0_0 a0_1 l0_2 l1_0 l1_1).bind fun t377 => (if t377 = true then ((spec_ClassDepends.f k a0_0 a0_1 l0_2 l1_0 l1_1).bind fun t378 => ((spec_OrderOf.f k t378).bind fun bt381 => (if bt381.2 = true then (some (1, bt381.1, ([] : List Int))) else ((spec_ShortestCycle.f k t378).bind fun t385 => (some (2, ([] : List Int), t385)))))) else (some (0, ([] : List Int), ([] : List Int))))
theorem spec_CheckClasses.mono : ∀ a0 a1 a2 a3 a4 k, LeO (spec_CheckClasses.f k a0 a1 a2 a3 a4) (spec_CheckClasses.f (k + 1) a0 a1 a2 a3 a4) := by
 intro a0 a1 a2 a3 a4 k
 unfold spec_CheckClasses.f
 repeat' (with_reducible first | exact spec_ClassDepends.mono .. | exact spec_ClassesOk.mono .. | exact spec_OrderOf.mono .. | exact spec_ShortestCycle.mono .. | exact LeO.refl .. | exact LeO.none .. | refine LeO.ite ?_ ?_ | refine LeO.bind ?_ (fun _ => ?_))
theorem spec_CheckClasses.calls (k : Nat) (a0_0 : Int) (a0_1 : Int) (A0_2 : Option Addr) (c0_2 : Nat) (l0_2 : List Int) (A1_0 : Option Addr) (c1_0 : Nat) (l1_0 : List Int) (A1_1 : Option Addr) (c1_1 : Nat) (l1_1 : List Int) (r1 : Int) (r2 : List Int) (r3 : List Int) (w : World) (hr0_2 : Kd.C (Kd.int .i64) w A0_2 l0_2.length l0_2) (hc0_2 : l0_2.length ≤ c0_2) (hr1_0 : Kd.C (Kd.int .i64) w A1_0 l1_0.length l1_0) (hc1_0 : l1_0.length ≤ c1_0) (hr1_1 : Kd.C (Kd.int .i64) w A1_1 l1_1.length l1_1) (hc1_1 : l1_1.length ≤ c1_1) (h : spec_CheckClasses.f k a0_0 a0_1 l0_2 l1_0 l1_1 = some (r1, r2, r3)) :
  Calls Tryz.prog 7 #[.agg #[.int .i64 a0_0, .int .i64 a0_1, .slice A0_2 l0_2.length c0_2], .agg #[.slice A1_0 l1_0.length c1_0, .slice A1_1 l1_1.length c1_1]] w fun e w' => ∃ v1_ v2_ : Value, e = .returned (.agg #[.int .i64 r1, v1_, v2_]) ∧ Kd.R (Kd.int .i64) 3 w' w.heap.size (fun k_ => some k_ ≠ (v2_ : Value).ownBlock) v1_ r2 ∧ Kd.R (Kd.int .i64) 3 w' w.heap.size (fun k_ => some k_ ≠ (v1_ : Value).ownBlock) v2_ r3 ∧ Below w.heap.size w w' := by
 have hu38 := Tryz.underlying38
 have hu42 := Tryz.underlying42
 have hu34 := Tryz.underlying34
 have HR0_2 := Aside0.mk hr0_2
 have HC0_2 := Aside0.mk hc0_2
 clear hr0_2 hc0_2
 have HR1_0 := Aside0.mk hr1_0
 have HC1_0 := Aside0.mk hc1_0
 clear hr1_0 hc1_0
 have HR1_1 := Aside0.mk hr1_1
 have HC1_1 := Aside0.mk hc1_1
 clear hr1_1 hc1_1
 have HB := Aside0.mk (Below.refl w.heap.size w)
 have H : ((spec_ClassesOk.f k a0_0 a0_1 l0_2 l1_0 l1_1).bind fun t377 => (if t377 = true then ((spec_ClassDepends.f k a0_0 a0_1 l0_2 l1_0 l1_1).bind fun t378 => ((spec_OrderOf.f k t378).bind fun bt381 => (if bt381.2 = true then (some (1, bt381.1, ([] : List Int))) else ((spec_ShortestCycle.f k t378).bind fun t385 => (some (2, ([] : List Int), t385)))))) else (some (0, ([] : List Int), ([] : List Int))))) = some (r1, r2, r3) := h
 clear h
 obtain ⟨t377, A3, H⟩ := bi_ H
 by_cases c4 : t377 = true
 ·subst c4
  rw [if_pos rfl] at H
  obtain ⟨t378, A5, H⟩ := bi_ H
  obtain ⟨⟨t381, t382⟩, A6, H⟩ := bi_ H
  try dsimp only at H
  by_cases c7 : t382 = true
  ·subst c7
   rw [if_pos rfl] at H
   simp only [Option.some.injEq, Prod.mk.injEq] at H
   obtain ⟨rfl, rfl, rfl⟩ := H
   go_enter Tryz.func7, Tryz.ntmps7
   go_wp2_with (first | ((with_reducible refine gate_dst (N := 2) rfl ?_); refine box_event ?hg (N := 2) ?hd (cs := #[.int .i64 a0_0, .int .i64 a0_1, .slice A0_2 l0_2.length c0_2]) (t := 38) ?hr ?_; (case hd => rfl); (case hg => rfl); (case hr => first | (go_simp; done) | (go_simp; rfl)); intro gb374 hg w8 hbox hb; have BK374 := Aside0.mk (hbox); have GW374 := gw_ hg HB; replace HB := hs_ HB hb; clear hb hbox hg) | ((with_reducible refine gate_dst (N := 3) rfl ?_); refine box_event ?hg (N := 3) ?hd (cs := #[.slice A1_0 l1_0.length c1_0, .slice A1_1 l1_1.length c1_1]) (t := 42) ?hr ?_; (case hd => rfl); (case hg => rfl); (case hr => first | (go_simp; done) | (go_simp; rfl)); intro gb375 hg w9 hbox hb; have BK375 := Aside0.mk (hbox); have GW375 := gw_ hg HB; replace HB := hs_ HB hb; have NB374_375 := nl_ hg BK374; have NB375_374 := ng_ hg BK374; replace BK374 := kb_ BK374 hb; clear hb hbox hg) | ((with_reducible refine gate_dst (N := 4) rfl ?_); refine box_event ?hg (N := 4) ?hd (cs := #[.int .i64 0, .slice none 0 0, .slice none 0 0]) (t := 34) ?hr ?_; (case hd => rfl); (case hg => rfl); (case hr => first | (go_simp; done) | (go_simp; rfl)); intro gb376 hg w10 hbox hb; have BK376 := Aside0.mk (hbox); have GW376 := gw_ hg HB; replace HB := hs_ HB hb; have NB374_376 := nl_ hg BK374; have NB376_374 := ng_ hg BK374; replace BK374 := kb_ BK374 hb; have NB375_376 := nl_ hg BK375; have NB376_375 := ng_ hg BK375; replace BK375 := kb_ BK375 hb; clear hb hbox hg; have hnb11 := NB374_375.out; have hnc11 := NB375_374.out; have hnb12 := NB374_376.out; have hnc12 := NB376_374.out; obtain ⟨hcz13_0, hcz13_1, hcz13_2, hfz13_0, hfz13_1, hfz13_2⟩ := cz3_ BK374.out; have hnb14 := NB375_376.out; have hnc14 := NB376_375.out; obtain ⟨hcz15_0, hcz15_1, hfz15_0, hfz15_1⟩ := cz2_ BK375.out) | ((with_reducible refine gate_callee (f := 27) rfl ?_); refine gm_ (some 10) Tryz.func27 #[.agg #[.int .i64 a0_0, .int .i64 a0_1, .slice A0_2 l0_2.length c0_2], .agg #[.slice A1_0 l1_0.length c1_0, .slice A1_1 l1_1.length c1_1]] rfl ?_; (with_reducible refine (spec_ClassesOk.calls k a0_0 a0_1 _ _ l0_2 _ _ l1_0 _ _ l1_1 true _ ?side1 HC0_2.out ?side3 HC1_0.out ?side5 HC1_1.out A3.out).mono ?_); (case side1 => exact cb_ HR0_2.out HB.out); (case side3 => exact cb_ HR1_0.out HB.out); (case side5 => exact cb_ HR1_1.out HB.out); rintro e w16 ⟨rfl, hb⟩; refine ⟨_, rfl, ?_⟩; replace BK374 := kb_ BK374 hb; replace BK375 := kb_ BK375 hb; replace BK376 := kb_ BK376 hb; replace HB := hs_ HB hb; (try clear hb); obtain ⟨hcz17_0, hcz17_1, hcz17_2, hfz17_0, hfz17_1, hfz17_2⟩ := cz3_ BK374.out; obtain ⟨hcz18_0, hcz18_1, hfz18_0, hfz18_1⟩ := cz2_ BK375.out) | ((with_reducible refine gate_callee (f := 28) rfl ?_); refine gm_ (some 15) Tryz.func28 #[.agg #[.int .i64 a0_0, .int .i64 a0_1, .slice A0_2 l0_2.length c0_2], .agg #[.slice A1_0 l1_0.length c1_0, .slice A1_1 l1_1.length c1_1]] rfl ?_; (with_reducible refine (spec_ClassDepends.calls k a0_0 a0_1 _ _ l0_2 _ _ l1_0 _ _ l1_1 t378 _ ?side1 HC0_2.out ?side3 HC1_0.out ?side5 HC1_1.out A5.out).mono ?_); (case side1 => exact cb_ HR0_2.out HB.out); (case side3 => exact cb_ HR1_0.out HB.out); (case side5 => exact cb_ HR1_1.out HB.out); rintro e w19 ⟨v379, rfl, ho0, hb⟩; refine ⟨_, rfl, ?_⟩; have HO380 := Aside0.mk (Kd.R_lower ho0 (bz_ HB.out)); replace BK374 := kb_ BK374 hb; replace BK375 := kb_ BK375 hb; replace BK376 := kb_ BK376 hb; replace HB := hs_ HB hb; (try clear hb); (try clear ho0); obtain ⟨Ao20, co20, eo20⟩ := Kd.R_slice HO380.out; subst eo20) | ((with_reducible refine gate_callee (f := 29) rfl ?_); refine gm_ (some 18) Tryz.func29 #[.slice Ao20 t378.length co20] rfl ?_; (with_reducible refine (spec_OrderOf.calls k _ _ t378 t381 true _ ?side1 ?side2 A6.out).mono ?_); (case side1 => exact rr_ HO380); (case side2 => exact (Kd.R_reads' HO380.out).2.1); rintro e w21 ⟨v383, rfl, ho0, hb⟩; refine ⟨_, rfl, ?_⟩; replace HO380 := rb_ HO380 hb; have HO384 := Aside0.mk (Kd.R_lower ho0 (bz_ HB.out)); replace BK374 := kb_ BK374 hb; replace BK375 := kb_ BK375 hb; replace BK376 := kb_ BK376 hb; replace HB := hs_ HB hb; (try clear hb); (try clear ho0); obtain ⟨Ao22, co22, eo22⟩ := Kd.R_slice HO384.out; subst eo22; obtain ⟨hcz23_0, hcz23_1, hcz23_2, hfz23_0, hfz23_1, hfz23_2⟩ := cz3_ BK376.out))
   refine bodyPost_ret (results_cell_row rfl _ _ gb376 34 #[.int .i64 1, .slice Ao22 t381.length co22, .slice none 0 0] (0, 0) _ rfl (by (with_reducible repeat (first | refine blk_drewN ?_ _ | refine blk_drew ?_ | refine blk_alloc ?_ _)); refine blk_put (cs := #[.int .i64 1, .slice Ao22 t381.length co22, .slice none 0 0]) ?_ 2 _ rfl; (with_reducible repeat (first | refine blk_drewN ?_ _ | refine blk_drew ?_ | refine blk_alloc ?_ _)); refine blk_put (cs := #[.int .i64 1, .slice none 0 0, .slice none 0 0]) ?_ 1 _ rfl; (with_reducible repeat (first | refine blk_drewN ?_ _ | refine blk_drew ?_ | refine blk_alloc ?_ _)); refine blk_put (cs := #[.int .i64 0, .slice none 0 0, .slice none 0 0]) ?_ 0 _ rfl; (with_reducible repeat (first | refine blk_drewN ?_ _ | refine blk_drew ?_ | refine blk_alloc ?_ _)); exact BK376.out) Tryz.underlying34 rfl (by kernel_rfl)) rfl ?_
   exact ⟨_, _, fin_, rm_ (Kd.R_types HO384.out BK376.out (by decide)) (fun _ hk => (by simp [Value.ownBlock])), by first | exact Kd.R_nil _ _ _ _ _ | exact Kd.N_nil _ _ _ _ _ | exact Kd.V_nil _ _ _ _ _ | exact Kd.Q_nil _ _ _ _ _ | exact Kd.S_nil _ _ _ _ _, bb_ HB.out⟩
  replace c7 := Bool.eq_false_iff.mpr c7
  subst c7
  rw [if_neg (show ¬ (false = true) by decide)] at H
  obtain ⟨t385, A24, H⟩ := bi_ H
  simp only [Option.some.injEq, Prod.mk.injEq] at H
  obtain ⟨rfl, rfl, rfl⟩ := H
  go_enter Tryz.func7, Tryz.ntmps7
  go_wp2_with (first | ((with_reducible refine gate_dst (N := 2) rfl ?_); refine box_event ?hg (N := 2) ?hd (cs := #[.int .i64 a0_0, .int .i64 a0_1, .slice A0_2 l0_2.length c0_2]) (t := 38) ?hr ?_; (case hd => rfl); (case hg => rfl); (case hr => first | (go_simp; done) | (go_simp; rfl)); intro gb374 hg w25 hbox hb; have BK374 := Aside0.mk (hbox); have GW374 := gw_ hg HB; replace HB := hs_ HB hb; clear hb hbox hg) | ((with_reducible refine gate_dst (N := 3) rfl ?_); refine box_event ?hg (N := 3) ?hd (cs := #[.slice A1_0 l1_0.length c1_0, .slice A1_1 l1_1.length c1_1]) (t := 42) ?hr ?_; (case hd => rfl); (case hg => rfl); (case hr => first | (go_simp; done) | (go_simp; rfl)); intro gb375 hg w26 hbox hb; have BK375 := Aside0.mk (hbox); have GW375 := gw_ hg HB; replace HB := hs_ HB hb; have NB374_375 := nl_ hg BK374; have NB375_374 := ng_ hg BK374; replace BK374 := kb_ BK374 hb; clear hb hbox hg) | ((with_reducible refine gate_dst (N := 4) rfl ?_); refine box_event ?hg (N := 4) ?hd (cs := #[.int .i64 0, .slice none 0 0, .slice none 0 0]) (t := 34) ?hr ?_; (case hd => rfl); (case hg => rfl); (case hr => first | (go_simp; done) | (go_simp; rfl)); intro gb376 hg w27 hbox hb; have BK376 := Aside0.mk (hbox); have GW376 := gw_ hg HB; replace HB := hs_ HB hb; have NB374_376 := nl_ hg BK374; have NB376_374 := ng_ hg BK374; replace BK374 := kb_ BK374 hb; have NB375_376 := nl_ hg BK375; have NB376_375 := ng_ hg BK375; replace BK375 := kb_ BK375 hb; clear hb hbox hg; have hnb28 := NB374_375.out; have hnc28 := NB375_374.out; have hnb29 := NB374_376.out; have hnc29 := NB376_374.out; obtain ⟨hcz30_0, hcz30_1, hcz30_2, hfz30_0, hfz30_1, hfz30_2⟩ := cz3_ BK374.out; have hnb31 := NB375_376.out; have hnc31 := NB376_375.out; obtain ⟨hcz32_0, hcz32_1, hfz32_0, hfz32_1⟩ := cz2_ BK375.out) | ((with_reducible refine gate_callee (f := 27) rfl ?_); refine gm_ (some 10) Tryz.func27 #[.agg #[.int .i64 a0_0, .int .i64 a0_1, .slice A0_2 l0_2.length c0_2], .agg #[.slice A1_0 l1_0.length c1_0, .slice A1_1 l1_1.length c1_1]] rfl ?_; (with_reducible refine (spec_ClassesOk.calls k a0_0 a0_1 _ _ l0_2 _ _ l1_0 _ _ l1_1 true _ ?side1 HC0_2.out ?side3 HC1_0.out ?side5 HC1_1.out A3.out).mono ?_); (case side1 => exact cb_ HR0_2.out HB.out); (case side3 => exact cb_ HR1_0.out HB.out); (case side5 => exact cb_ HR1_1.out HB.out); rintro e w33 ⟨rfl, hb⟩; refine ⟨_, rfl, ?_⟩; replace BK374 := kb_ BK374 hb; replace BK375 := kb_ BK375 hb; replace BK376 := kb_ BK376 hb; replace HB := hs_ HB hb; (try clear hb); obtain ⟨hcz34_0, hcz34_1, hcz34_2, hfz34_0, hfz34_1, hfz34_2⟩ := cz3_ BK374.out; obtain ⟨hcz35_0, hcz35_1, hfz35_0, hfz35_1⟩ := cz2_ BK375.out) | ((with_reducible refine gate_callee (f := 28) rfl ?_); refine gm_ (some 15) Tryz.func28 #[.agg #[.int .i64 a0_0, .int .i64 a0_1, .slice A0_2 l0_2.length c0_2], .agg #[.slice A1_0 l1_0.length c1_0, .slice A1_1 l1_1.length c1_1]] rfl ?_; (with_reducible refine (spec_ClassDepends.calls k a0_0 a0_1 _ _ l0_2 _ _ l1_0 _ _ l1_1 t378 _ ?side1 HC0_2.out ?side3 HC1_0.out ?side5 HC1_1.out A5.out).mono ?_); (case side1 => exact cb_ HR0_2.out HB.out); (case side3 => exact cb_ HR1_0.out HB.out); (case side5 => exact cb_ HR1_1.out HB.out); rintro e w36 ⟨v379, rfl, ho0, hb⟩; refine ⟨_, rfl, ?_⟩; have HO380 := Aside0.mk (Kd.R_lower ho0 (bz_ HB.out)); replace BK374 := kb_ BK374 hb; replace BK375 := kb_ BK375 hb; replace BK376 := kb_ BK376 hb; replace HB := hs_ HB hb; (try clear hb); (try clear ho0); obtain ⟨Ao37, co37, eo37⟩ := Kd.R_slice HO380.out; subst eo37) | ((with_reducible refine gate_callee (f := 29) rfl ?_); refine gm_ (some 18) Tryz.func29 #[.slice Ao37 t378.length co37] rfl ?_; (with_reducible refine (spec_OrderOf.calls k _ _ t378 t381 false _ ?side1 ?side2 A6.out).mono ?_); (case side1 => exact rr_ HO380); (case side2 => exact (Kd.R_reads' HO380.out).2.1); rintro e w38 ⟨v383, rfl, ho0, hb⟩; refine ⟨_, rfl, ?_⟩; replace HO380 := rb_ HO380 hb; have HO384 := Aside0.mk (Kd.R_lower ho0 (bz_ HB.out)); replace BK374 := kb_ BK374 hb; replace BK375 := kb_ BK375 hb; replace BK376 := kb_ BK376 hb; replace HB := hs_ HB hb; (try clear hb); (try clear ho0)) | ((with_reducible refine gate_callee (f := 30) rfl ?_); refine gm_ (some 25) Tryz.func30 #[.slice Ao37 t378.length co37] rfl ?_; (with_reducible refine (spec_ShortestCycle.calls k _ _ t378 t385 _ ?side1 ?side2 A24.out).mono ?_); (case side1 => exact rr_ HO380); (case side2 => exact (Kd.R_reads' HO380.out).2.1); rintro e w39 ⟨v386, rfl, ho0, hb⟩; refine ⟨_, rfl, ?_⟩; replace HO380 := rb_ HO380 hb; have HO387 := Aside0.mk (Kd.R_lower (Kd.R_new' ho0 (rl_ HO384.out)) (bz_ HB.out)); replace HO384 := re_ HO384 ho0 hb; replace BK374 := kb_ BK374 hb; replace BK375 := kb_ BK375 hb; replace BK376 := kb_ BK376 hb; replace HB := hs_ HB hb; (try clear hb); (try clear ho0); obtain ⟨Ao40, co40, eo40⟩ := Kd.R_slice HO387.out; subst eo40; obtain ⟨hcz41_0, hcz41_1, hcz41_2, hfz41_0, hfz41_1, hfz41_2⟩ := cz3_ BK376.out))
  refine bodyPost_ret (results_cell_row rfl _ _ gb376 34 #[.int .i64 2, .slice none 0 0, .slice Ao40 t385.length co40] (0, 0) _ rfl (by (with_reducible repeat (first | refine blk_drewN ?_ _ | refine blk_drew ?_ | refine blk_alloc ?_ _)); refine blk_put (cs := #[.int .i64 2, .slice none 0 0, .slice none 0 0]) ?_ 2 _ rfl; (with_reducible repeat (first | refine blk_drewN ?_ _ | refine blk_drew ?_ | refine blk_alloc ?_ _)); refine blk_put (cs := #[.int .i64 2, .slice none 0 0, .slice none 0 0]) ?_ 1 _ rfl; (with_reducible repeat (first | refine blk_drewN ?_ _ | refine blk_drew ?_ | refine blk_alloc ?_ _)); refine blk_put (cs := #[.int .i64 0, .slice none 0 0, .slice none 0 0]) ?_ 0 _ rfl; (with_reducible repeat (first | refine blk_drewN ?_ _ | refine blk_drew ?_ | refine blk_alloc ?_ _)); exact BK376.out) Tryz.underlying34 rfl (by kernel_rfl)) rfl ?_
  exact ⟨_, _, fin_, by first | exact Kd.R_nil _ _ _ _ _ | exact Kd.N_nil _ _ _ _ _ | exact Kd.V_nil _ _ _ _ _ | exact Kd.Q_nil _ _ _ _ _ | exact Kd.S_nil _ _ _ _ _, rm_ (Kd.R_types HO387.out BK376.out (by decide)) (fun _ hk => (by simp [Value.ownBlock])), bb_ HB.out⟩
 ·replace c4 := Bool.eq_false_iff.mpr c4
  subst c4
  rw [if_neg (show ¬ (false = true) by decide)] at H
  simp only [Option.some.injEq, Prod.mk.injEq] at H
  obtain ⟨rfl, rfl, rfl⟩ := H
  go_enter Tryz.func7, Tryz.ntmps7
  go_wp2_with (first | ((with_reducible refine gate_dst (N := 2) rfl ?_); refine box_event ?hg (N := 2) ?hd (cs := #[.int .i64 a0_0, .int .i64 a0_1, .slice A0_2 l0_2.length c0_2]) (t := 38) ?hr ?_; (case hd => rfl); (case hg => rfl); (case hr => first | (go_simp; done) | (go_simp; rfl)); intro gb374 hg w42 hbox hb; have BK374 := Aside0.mk (hbox); have GW374 := gw_ hg HB; replace HB := hs_ HB hb; clear hb hbox hg) | ((with_reducible refine gate_dst (N := 3) rfl ?_); refine box_event ?hg (N := 3) ?hd (cs := #[.slice A1_0 l1_0.length c1_0, .slice A1_1 l1_1.length c1_1]) (t := 42) ?hr ?_; (case hd => rfl); (case hg => rfl); (case hr => first | (go_simp; done) | (go_simp; rfl)); intro gb375 hg w43 hbox hb; have BK375 := Aside0.mk (hbox); have GW375 := gw_ hg HB; replace HB := hs_ HB hb; have NB374_375 := nl_ hg BK374; have NB375_374 := ng_ hg BK374; replace BK374 := kb_ BK374 hb; clear hb hbox hg) | ((with_reducible refine gate_dst (N := 4) rfl ?_); refine box_event ?hg (N := 4) ?hd (cs := #[.int .i64 0, .slice none 0 0, .slice none 0 0]) (t := 34) ?hr ?_; (case hd => rfl); (case hg => rfl); (case hr => first | (go_simp; done) | (go_simp; rfl)); intro gb376 hg w44 hbox hb; have BK376 := Aside0.mk (hbox); have GW376 := gw_ hg HB; replace HB := hs_ HB hb; have NB374_376 := nl_ hg BK374; have NB376_374 := ng_ hg BK374; replace BK374 := kb_ BK374 hb; have NB375_376 := nl_ hg BK375; have NB376_375 := ng_ hg BK375; replace BK375 := kb_ BK375 hb; clear hb hbox hg; have hnb45 := NB374_375.out; have hnc45 := NB375_374.out; have hnb46 := NB374_376.out; have hnc46 := NB376_374.out; obtain ⟨hcz47_0, hcz47_1, hcz47_2, hfz47_0, hfz47_1, hfz47_2⟩ := cz3_ BK374.out; have hnb48 := NB375_376.out; have hnc48 := NB376_375.out; obtain ⟨hcz49_0, hcz49_1, hfz49_0, hfz49_1⟩ := cz2_ BK375.out) | ((with_reducible refine gate_callee (f := 27) rfl ?_); refine gm_ (some 10) Tryz.func27 #[.agg #[.int .i64 a0_0, .int .i64 a0_1, .slice A0_2 l0_2.length c0_2], .agg #[.slice A1_0 l1_0.length c1_0, .slice A1_1 l1_1.length c1_1]] rfl ?_; (with_reducible refine (spec_ClassesOk.calls k a0_0 a0_1 _ _ l0_2 _ _ l1_0 _ _ l1_1 false _ ?side1 HC0_2.out ?side3 HC1_0.out ?side5 HC1_1.out A3.out).mono ?_); (case side1 => exact cb_ HR0_2.out HB.out); (case side3 => exact cb_ HR1_0.out HB.out); (case side5 => exact cb_ HR1_1.out HB.out); rintro e w50 ⟨rfl, hb⟩; refine ⟨_, rfl, ?_⟩; replace BK374 := kb_ BK374 hb; replace BK375 := kb_ BK375 hb; replace BK376 := kb_ BK376 hb; replace HB := hs_ HB hb; (try clear hb); obtain ⟨hcz51_0, hcz51_1, hcz51_2, hfz51_0, hfz51_1, hfz51_2⟩ := cz3_ BK376.out))
  refine bodyPost_ret (results_cell_row rfl _ _ gb376 34 #[.int .i64 0, .slice none 0 0, .slice none 0 0] (0, 0) _ rfl (by (with_reducible repeat (first | refine blk_drewN ?_ _ | refine blk_drew ?_ | refine blk_alloc ?_ _)); refine blk_put (cs := #[.int .i64 0, .slice none 0 0, .slice none 0 0]) ?_ 2 _ rfl; (with_reducible repeat (first | refine blk_drewN ?_ _ | refine blk_drew ?_ | refine blk_alloc ?_ _)); refine blk_put (cs := #[.int .i64 0, .slice none 0 0, .slice none 0 0]) ?_ 1 _ rfl; (with_reducible repeat (first | refine blk_drewN ?_ _ | refine blk_drew ?_ | refine blk_alloc ?_ _)); refine blk_put (cs := #[.int .i64 0, .slice none 0 0, .slice none 0 0]) ?_ 0 _ rfl; (with_reducible repeat (first | refine blk_drewN ?_ _ | refine blk_drew ?_ | refine blk_alloc ?_ _)); exact BK376.out) Tryz.underlying34 rfl (by kernel_rfl)) rfl ?_
  exact ⟨_, _, fin_, by first | exact Kd.R_nil _ _ _ _ _ | exact Kd.N_nil _ _ _ _ _ | exact Kd.V_nil _ _ _ _ _ | exact Kd.Q_nil _ _ _ _ _ | exact Kd.S_nil _ _ _ _ _, by first | exact Kd.R_nil _ _ _ _ _ | exact Kd.N_nil _ _ _ _ _ | exact Kd.V_nil _ _ _ _ _ | exact Kd.Q_nil _ _ _ _ _ | exact Kd.S_nil _ _ _ _ _, bb_ HB.out⟩

/-! ### laws_toGrid: function 31 -/
def laws_toGrid.f (a0_0 : Int) (a0_1 : Int) : Option (Int × Int) := some (a0_0, a0_1)
theorem laws_toGrid.calls (a0_0 : Int) (a0_1 : Int) (r1 : Int) (r2 : Int) (w : World) (h : laws_toGrid.f a0_0 a0_1 = some (r1, r2)) :
  Calls Tryz.prog 31 #[.agg #[.int .i64 a0_0, .int .i64 a0_1]] w fun e w' => e = .returned (.agg #[.int .i64 r1, .int .i64 r2]) ∧ Below w.heap.size w w' := by
 have hu23 := Tryz.underlying23
 have hu36 := Tryz.underlying36
 have HB := Aside0.mk (Below.refl w.heap.size w)
 have H : (some (a0_0, a0_1)) = some (r1, r2) := h
 clear h
 simp only [Option.some.injEq, Prod.mk.injEq] at H
 obtain ⟨rfl, rfl⟩ := H
 go_enter Tryz.func31, Tryz.ntmps31
 go_wp2_with (first | ((with_reducible refine gate_dst (N := 1) rfl ?_); refine box_event ?hg (N := 1) ?hd (cs := #[.int .i64 a0_0, .int .i64 a0_1]) (t := 23) ?hr ?_; (case hd => rfl); (case hg => rfl); (case hr => first | (go_simp; done) | (go_simp; rfl)); intro gb388 hg w2 hbox hb; have BK388 := Aside0.mk (hbox); have GW388 := gw_ hg HB; replace HB := hs_ HB hb; clear hb hbox hg) | ((with_reducible refine gate_dst (N := 2) rfl ?_); refine box_event ?hg (N := 2) ?hd (cs := #[.int .i64 0, .int .i64 0]) (t := 36) ?hr ?_; (case hd => rfl); (case hg => rfl); (case hr => first | (go_simp; done) | (go_simp; rfl)); intro gb389 hg w3 hbox hb; have BK389 := Aside0.mk (hbox); have GW389 := gw_ hg HB; replace HB := hs_ HB hb; have NB388_389 := nl_ hg BK388; have NB389_388 := ng_ hg BK388; replace BK388 := kb_ BK388 hb; clear hb hbox hg) | ((with_reducible refine gate_dst (N := 3) rfl ?_); refine box_event ?hg (N := 3) ?hd (cs := #[.int .i64 0, .int .i64 0]) (t := 36) ?hr ?_; (case hd => rfl); (case hg => rfl); (case hr => first | (go_simp; done) | (go_simp; rfl)); intro gb390 hg w4 hbox hb; have BK390 := Aside0.mk (hbox); have GW390 := gw_ hg HB; replace HB := hs_ HB hb; have NB388_390 := nl_ hg BK388; have NB390_388 := ng_ hg BK388; replace BK388 := kb_ BK388 hb; have NB389_390 := nl_ hg BK389; have NB390_389 := ng_ hg BK389; replace BK389 := kb_ BK389 hb; clear hb hbox hg; have hnb5 := NB388_389.out; have hnc5 := NB389_388.out; have hnb6 := NB388_390.out; have hnc6 := NB390_388.out; obtain ⟨hcz7_0, hcz7_1, hfz7_0, hfz7_1⟩ := cz2_ BK388.out; have hnb8 := NB390_389.out; have hnc8 := NB389_390.out; obtain ⟨hcz9_0, hcz9_1, hfz9_0, hfz9_1⟩ := cz2_ BK390.out; obtain ⟨hcz10_0, hcz10_1, hfz10_0, hfz10_1⟩ := cz2_ BK389.out))
 refine bodyPost_ret (results_cell_row rfl _ _ gb389 36 #[.int .i64 a0_0, .int .i64 a0_1] (0, 0) _ rfl (by (with_reducible repeat (first | refine blk_drewN ?_ _ | refine blk_drew ?_ | refine blk_alloc ?_ _)); refine blk_put (cs := #[.int .i64 a0_0, .int .i64 0]) ?_ 1 _ rfl; (with_reducible repeat (first | refine blk_drewN ?_ _ | refine blk_drew ?_ | refine blk_alloc ?_ _)); refine blk_put (cs := #[.int .i64 0, .int .i64 0]) ?_ 0 _ rfl; (with_reducible repeat (first | refine blk_drewN ?_ _ | refine blk_drew ?_ | refine blk_alloc ?_ _)); refine blk_far ?_ NB389_390.out _; (with_reducible repeat (first | refine blk_drewN ?_ _ | refine blk_drew ?_ | refine blk_alloc ?_ _)); refine blk_far ?_ NB389_390.out _; (with_reducible repeat (first | refine blk_drewN ?_ _ | refine blk_drew ?_ | refine blk_alloc ?_ _)); exact BK389.out) Tryz.underlying36 rfl (by kernel_rfl)) rfl ?_
 exact ⟨fin_, bb_ HB.out⟩

/-! ### laws_toIntS: function 32 -/
def laws_toIntS.l0 : Nat → List Int → List Int → Int → Option (List Int)
 | 0, _, _, _ => none
 | k + 1, x0, x3, x4 => if x4 < (x0.length : Int) then (if 0 ≤ x4 then (if x4 < (x3.length : Int) then (laws_toIntS.l0 k x0 (x3.set (x4 : Int).toNat (rd x0 x4)) (wrap64 (x4 + 1))) else (none)) else (none)) else (some x3)
def laws_toIntS.f (k : Nat) (l0 : List Int) : Option (List Int) := if 0 ≤ (l0.length : Int) then (if ((l0.length : Int) : Int).toNat ≤ 35184372088832 then (laws_toIntS.l0 k l0 (List.replicate ((l0.length : Int) : Int).toNat 0) 0) else (none)) else (none)
theorem laws_toIntS.mono_l : ∀ k, (∀ y0 y1 y2, LeO (laws_toIntS.l0 k y0 y1 y2) (laws_toIntS.l0 (k + 1) y0 y1 y2))
 | 0 => fun _ _ _ r h => by simp [laws_toIntS.l0] at h
 | k + 1 => by
  have ih0 := laws_toIntS.mono_l k
  ·intro y0 y1 y2
   unfold laws_toIntS.l0
   repeat' (with_reducible first | exact ih0 .. | exact LeO.refl .. | exact LeO.none .. | refine LeO.ite ?_ ?_ | refine LeO.bind ?_ (fun _ => ?_))
theorem laws_toIntS.mono : ∀ a0 k, LeO (laws_toIntS.f k a0) (laws_toIntS.f (k + 1) a0) := by
 intro a0 k
 have ih0 := laws_toIntS.mono_l k
 unfold laws_toIntS.f
 repeat' (with_reducible first | exact ih0 .. | exact LeO.refl .. | exact LeO.none .. | refine LeO.ite ?_ ?_ | refine LeO.bind ?_ (fun _ => ?_))
theorem laws_toIntS.calls (k : Nat) (A0 : Option Addr) (c0 : Nat) (l0 : List Int) (r : List Int) (w : World) (hr0 : Kd.C (Kd.int .i64) w A0 l0.length l0) (hc0 : l0.length ≤ c0) (h : laws_toIntS.f k l0 = some r) :
  Calls Tryz.prog 32 #[.slice A0 l0.length c0] w fun e w' => ∃ v0_ : Value, e = .returned (v0_) ∧ Kd.R (Kd.int .i64) 3 w' w.heap.size (fun _ => True) v0_ r ∧ Below w.heap.size w w' := by
 have HR0 := Aside0.mk hr0
 have HC0 := Aside0.mk hc0
 clear hr0 hc0
 have HB := Aside0.mk (Below.refl w.heap.size w)
 have H : (if 0 ≤ (l0.length : Int) then (if ((l0.length : Int) : Int).toNat ≤ 35184372088832 then (laws_toIntS.l0 k l0 (List.replicate ((l0.length : Int) : Int).toNat 0) 0) else (none)) else (none)) = some r := h
 clear h
 by_cases c2 : 0 ≤ (l0.length : Int)
 ·rw [if_pos c2] at H
  have c2b0 := eq_true c2
  have c2b1 : decide (0 ≤ (l0.length : Int)) = true := decide_eq_true c2
  clear c2
  by_cases c3 : ((l0.length : Int) : Int).toNat ≤ 35184372088832
  rotate_left
  ·rw [if_neg c3] at H
   exact absurd H (by simp)
  rw [if_pos c3] at H
  have c3b0 := eq_true c3
  have c3b1 : decide (((l0.length : Int) : Int).toNat ≤ 35184372088832) = true := decide_eq_true c3
  clear c3
  obtain ⟨y391, hy391⟩ : ∃ y_ : List Int, y_ = (List.replicate ((l0.length : Int) : Int).toNat 0) := ⟨_, rfl⟩
  replace H : (laws_toIntS.l0 k l0 y391 0) = some r := by first | (rw [hy391]; with_reducible exact H) | (have H2_ := (Option.bind_some _ _).symm.trans H; rw [hy391]; with_reducible exact H2_) | (have H2_ := (Option.bind_some _ _).symm.trans H; with_reducible exact H2_) | with_reducible exact H | (rw [hy391]; exact H) | exact H
  have Ny391 := Aside0.mk hy391
  clear hy391
  have H' := Aside0.mk H
  clear H
  go_enter Tryz.func32, Tryz.ntmps32
  go_wp2_with (first | ((with_reducible refine gate_dst (N := 7) rfl ?_); refine Kd.R_make (Kd.int .i64) _ 3 rfl (N := 7) rfl 24 _ _ rfl (l0.length : Int) rfl rfl Tryz.underlying24 (.int .i64 0) 8 info3 rfl (by decide) (by omega) 0 (ok := fun _ => True) (okp := fun _ => True) rfl (fun _ hk => hk) trivial (of_decide_eq_true dg_) (Nat.le_trans (Nat.mul_le_mul_right _ (of_decide_eq_true dg_ : (l0.length : Int).toNat ≤ 35184372088832)) (by omega)) (Below.refl _ _) (Nat.le_refl _) ?_; intro v392 w4 ho5 hb hg_ hnew_; clear hg_ hnew_; (first | rw [← Ny391.out] at ho5 | (simp only [Int.reduceToNat] at ho5; rw [← Ny391.out] at ho5)); have HO393 := Aside0.mk (Kd.R_lower ho5 (bz_ HB.out)); replace HB := hs_ HB hb; clear hb ho5))
  go_loopg [4] k (fun kq v4 w' => ∃ (x3_1 : List Int) (x4_1 : Int), v4 = .int .i64 x4_1 ∧ Aside0 (laws_toIntS.l0 kq l0 x3_1 x4_1 = some r) ∧ Aside0 (kq ≤ k) ∧ Aside0 (Kd.R (Kd.int .i64) 3 w' w.heap.size (fun _ => True) v392 x3_1) ∧ Aside0 (Below w.heap.size w w'))
  case atStart => exact ⟨(y391), (0), ef_, H', ⟨Nat.le_refl _⟩, ⟨ra_ HO393.out⟩, ⟨bb_ HB.out⟩⟩
  clear H'
  try clear c2
  try clear c2b0
  try clear c2b1
  try clear c3
  try clear c3b0
  try clear c3b1
  obtain ⟨x3_1, x4_1, rfl, HA, HK1, HO_3, HB⟩ := hrel
  obtain _ | k1 := gk
  ·exact absurd HA.out (by simp [laws_toIntS.l0])
  have H := HA.out
  clear HA
  simp only [laws_toIntS.l0] at H
  by_cases c6 : x4_1 < (l0.length : Int)
  rotate_left
  ·rw [if_neg c6] at H
   have c6b0 : decide (x4_1 < (l0.length : Int)) = false := decide_eq_false c6
   clear c6
   obtain rfl := Option.some.inj H
   go_wp2
   go_ret
   exact ⟨_, fin_, ra_ HO_3.out, bb_ HB.out⟩
  rw [if_pos c6] at H
  have c6b0 : decide (x4_1 < (l0.length : Int)) = true := decide_eq_true c6
  clear c6
  by_cases c7 : 0 ≤ x4_1
  rotate_left
  ·rw [if_neg c7] at H
   exact absurd H (by simp)
  rw [if_pos c7] at H
  have c7b0 : decide (0 ≤ x4_1) = true := decide_eq_true c7
  clear c7
  by_cases c8 : x4_1 < (x3_1.length : Int)
  rotate_left
  ·rw [if_neg c8] at H
   exact absurd H (by simp)
  rw [if_pos c8] at H
  have c8b0 : decide (x4_1 < (x3_1.length : Int)) = true := decide_eq_true c8
  clear c8
  obtain ⟨y395, hy395⟩ : ∃ y_ : List Int, y_ = (x3_1.set (x4_1 : Int).toNat (rd l0 x4_1)) := ⟨_, rfl⟩
  replace H : (laws_toIntS.l0 k1 l0 y395 (wrap64 (x4_1 + 1))) = some r := by first | (rw [hy395]; with_reducible exact H) | (have H2_ := (Option.bind_some _ _).symm.trans H; rw [hy395]; with_reducible exact H2_) | (have H2_ := (Option.bind_some _ _).symm.trans H; with_reducible exact H2_) | with_reducible exact H | (rw [hy395]; exact H) | exact H
  have Ny395 := Aside0.mk hy395
  clear hy395
  have H' := Aside0.mk H
  clear H
  have p394 : 0 ≤ (x4_1 : Int) := of_decide_eq_true dg_
  have q394 : x4_1 < (l0.length : Int) := of_decide_eq_true dg_
  obtain ⟨ad394, e394, hx394_0⟩ := Kd.at_int HR0.out x4_1 p394 q394
  cases e394
  replace hx394_0 := hc_ HB hx394_0
  replace p394 := eq_true p394
  replace q394 := eq_true q394
  have p9 : 0 ≤ (x4_1 : Int) := of_decide_eq_true dg_
  have q9 : (x4_1 : Int) < ((x3_1.length : Int) : Int) := of_decide_eq_true dg_
  obtain ⟨go9, co9, eo9, gb9, gl9, cl9, HG9⟩ := Kd.R_form HO_3.out (by omega)
  (first | cases eo9 | (injection eo9 with ea_ en_ ec_; (first | subst ea_ | (injection ea_ with ea_; subst ea_)); subst ec_; clear en_))
  have GB9 := Aside0.mk gb9
  have GG9 := Aside0.mk HG9
  clear gb9 gl9 HG9
  obtain ⟨hx9_0, hf9_0⟩ := Kd.R_celln 0 HO_3.out (x4_1 : Int) p9 q9
  replace p9 := eq_true p9
  replace q9 := eq_true q9
  have HP10 := Kd.R_putg HO_3.out (x4_1 : Int) (rd l0 x4_1)
  go_wp2_with (first | ((with_reducible refine gate_store (t := 3) (p := 20) rfl ?_); refine store_event (t := 3) (p := 20) (v := ?vo_w11) (w1 := (wr.setCell ⟨go9, (x4_1 : Int).toNat, none⟩ (.int .i64 (rd l0 x4_1)))) ?hg ?ho ?hn ?hr ?_; (case ho => rfl); (case hg => rfl); (case hn => rfl); (case hr => first | (go_simp; done) | (go_simp; rfl)); intro w11 hw; have hg : wr.grownBy w11 (some go9) := (by rw [hw]; exact HP10.2); have hp_ : Kd.R (Kd.int .i64) 3 w11 w.heap.size (fun _ => True) (.slice (some ⟨go9, 0, none⟩) x3_1.length co9) y395 := (by rw [hw, Ny395.out]; exact HP10.1); clear HP10; replace HO_3 := Aside0.mk (hp_); replace HB := Aside0.mk ((by rw [hw]; exact below_set (HB.out) GB9.out : Below w.heap.size w w11)); clear hg hw hp_))
  go_roundg k1
  case measure => have := HK1.out; omega
  case rel => exact ⟨(y395), (wrap64 (x4_1 + 1)), ef_, H', ⟨by have := HK1.out; omega⟩, ⟨ra_ HO_3.out⟩, ⟨bb_ HB.out⟩⟩
 ·rw [if_neg c2] at H
  exact absurd H (by simp)

end Go.Proofs.YtimdefbpoddoaaaGreat.PFnExactCheckClasses
-- thin
