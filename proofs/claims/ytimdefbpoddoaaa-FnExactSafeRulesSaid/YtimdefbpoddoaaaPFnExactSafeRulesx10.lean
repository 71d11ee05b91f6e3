/- The law's functions as plain functions, and their calls. No condition. -/
import Derived.Test.YtimdefbpoddoaaaPFnExactSafeRulesx0
import Derived.Test.YtimdefbpoddoaaaPFnExactSafeRulesx4
import Derived.Test.YtimdefbpoddoaaaPFnExactSafeRulesx6
import Derived.Test.YtimdefbpoddoaaaPFnExactSafeRulesx7
import Derived.Test.YtimdefbpoddoaaaPFnExactSafeRulesx8
import Derived.Test.YtimdefbpoddoaaaPFnExactSafeRulesx9
namespace Go.Proofs.Ytimdefbpoddoaaa.PFnExactSafeRules
open Go.RowKit Go.Proofs.YtimdefbpoddoaaaW.PrintWords Go.Proofs.YtimdefbpoddoaaaW.PrintLast Go.Proofs.YtimdefbpoddoaaaW.PrintMore
attribute [local go_sem] max2_int min2_int max_two min_two max_three min_three max_four min_four
set_option linter.unusedVariables false
set_option maxHeartbeats 8000000
set_option maxRecDepth 100000
set_option linter.unusedSimpArgs false

/-! ### spec_ShortestCycle: function 76 -/
mutual
def spec_ShortestCycle.l0 : Nat → List (S94) → List Int → Int → Int → Int → Option (List Int)
 | 0, _, _, _, _, _ => none
 | k + 1, x0, x3, x4, x5, x6 => if x6 < 128 then ((spec_SuccessorsOf.f k x0 x6).bind fun t287 => (if (t287.length : Int) = 0 then (spec_ShortestCycle.l0 k x0 x3 x4 x5 (wrap64 (x6 + 1))) else ((spec_l10Depths.f k x0 x6).bind fun t290 => (if 0 ≤ x6 then (if x6 < (t290.length : Int) then (if (rd t290 x6) > 0 then (if x4 = 0 then (spec_ShortestCycle.l0 k x0 x3 (rd t290 x6) x6 (wrap64 (x6 + 1))) else (if (rd t290 x6) < x4 then (spec_ShortestCycle.l0 k x0 x3 (rd t290 x6) x6 (wrap64 (x6 + 1))) else (spec_ShortestCycle.l0 k x0 x3 x4 x5 (wrap64 (x6 + 1))))) else (spec_ShortestCycle.l0 k x0 x3 x4 x5 (wrap64 (x6 + 1)))) else (none)) else (none))))) else (spec_ShortestCycle.l1 k x0 x3 x4 x5 x5 0)
def spec_ShortestCycle.l1 : Nat → List (S94) → List Int → Int → Int → Int → Int → Option (List Int)
 | 0, _, _, _, _, _, _ => none
 | k + 1, x0, x3, x4, x5, x8, x9 => if x9 < x4 then (if x3.length < 17592186044416 then ((spec_SuccessorsOf.f k x0 x8).bind fun t297 => (spec_ShortestCycle.l2 k x0 (x3 ++ [x8]) x4 x5 x8 x9 t297 0)) else (none)) else (some x3)
def spec_ShortestCycle.l2 : Nat → List (S94) → List Int → Int → Int → Int → Int → List Int → Int → Option (List Int)
 | 0, _, _, _, _, _, _, _, _ => none
 | k + 1, x0, x3, x4, x5, x8, x9, x10, x11 => if x11 < (x10.length : Int) then (if (wrap64 ((wrap64 (x4 - x9)) - 1)) = 0 then (if 0 ≤ x11 then (if (rd x10 x11) = x5 then (spec_ShortestCycle.l1 k x0 x3 x4 x5 (rd x10 x11) (wrap64 (x9 + 1))) else (if (wrap64 ((wrap64 (x4 - x9)) - 1)) > 0 then ((spec_l10Depths.f k x0 (rd x10 x11)).bind fun t304 => (if 0 ≤ x5 then (if x5 < (t304.length : Int) then (if (rd t304 x5) = (wrap64 ((wrap64 (x4 - x9)) - 1)) then (spec_ShortestCycle.l1 k x0 x3 x4 x5 (rd x10 x11) (wrap64 (x9 + 1))) else (spec_ShortestCycle.l2 k x0 x3 x4 x5 x8 x9 x10 (wrap64 (x11 + 1)))) else (none)) else (none))) else (spec_ShortestCycle.l2 k x0 x3 x4 x5 x8 x9 x10 (wrap64 (x11 + 1))))) else (none)) else (if (wrap64 ((wrap64 (x4 - x9)) - 1)) > 0 then (if 0 ≤ x11 then (if (rd x10 x11) = x5 then (spec_ShortestCycle.l2 k x0 x3 x4 x5 x8 x9 x10 (wrap64 (x11 + 1))) else ((spec_l10Depths.f k x0 (rd x10 x11)).bind fun t311 => (if 0 ≤ x5 then (if x5 < (t311.length : Int) then (if (rd t311 x5) = (wrap64 ((wrap64 (x4 - x9)) - 1)) then (spec_ShortestCycle.l1 k x0 x3 x4 x5 (rd x10 x11) (wrap64 (x9 + 1))) else (spec_ShortestCycle.l2 k x0 x3 x4 x5 x8 x9 x10 (wrap64 (x11 + 1)))) else (none)) else (none)))) else (none)) else (spec_ShortestCycle.l2 k x0 x3 x4 x5 x8 x9 x10 (wrap64 (x11 + 1))))) else (spec_ShortestCycle.l1 k x0 x3 x4 x5 x8 (wrap64 (x9 + 1)))
end
def spec_ShortestCycle.f (k : Nat) (l0 : List (S94)) : Option (List Int) := (some (([] : List Int) : List Int)).bind fun y283 => ((spec_DependsOk.f k l0).bind fun t286 => (if t286 = true then (spec_ShortestCycle.l0 k l0 y283 0 (-1) 0) else (some y283)))
theorem spec_ShortestCycle.mono_l : ∀ k, (∀ y0 y1 y2 y3 y4, LeO (spec_ShortestCycle.l0 k y0 y1 y2 y3 y4) (spec_ShortestCycle.l0 (k + 1) y0 y1 y2 y3 y4)) ∧ (∀ y0 y1 y2 y3 y4 y5, LeO (spec_ShortestCycle.l1 k y0 y1 y2 y3 y4 y5) (spec_ShortestCycle.l1 (k + 1) y0 y1 y2 y3 y4 y5)) ∧ (∀ y0 y1 y2 y3 y4 y5 y6 y7, LeO (spec_ShortestCycle.l2 k y0 y1 y2 y3 y4 y5 y6 y7) (spec_ShortestCycle.l2 (k + 1) y0 y1 y2 y3 y4 y5 y6 y7))
 | 0 => ⟨fun _ _ _ _ _ r h => by simp [spec_ShortestCycle.l0] at h, fun _ _ _ _ _ _ r h => by simp [spec_ShortestCycle.l1] at h, fun _ _ _ _ _ _ _ _ r h => by simp [spec_ShortestCycle.l2] at h⟩
 | k + 1 => by
  obtain ⟨ih0, ih1, ih2⟩ := spec_ShortestCycle.mono_l k
  refine ⟨?_, ?_, ?_⟩
  ·intro y0 y1 y2 y3 y4
   unfold spec_ShortestCycle.l0
   repeat' first
   | (with_reducible exact ih0 _ _ _ _ _)
   | (with_reducible exact ih1 _ _ _ _ _ _)
   | (with_reducible exact ih2 _ _ _ _ _ _ _ _)
   | (with_reducible exact spec_DependsOk.mono _ _)
   | (with_reducible exact spec_SuccessorsOf.mono _ _ _)
   | (with_reducible exact spec_l10Depths.mono _ _ _)
   | (with_reducible exact LeO.refl _)
   | (with_reducible exact LeO.none _)
   | (with_reducible refine LeO.ite ?_ ?_)
   | (with_reducible refine LeO.bind ?_ (fun _ => ?_))
   | exact ih0 _ _ _ _ _
   | exact ih1 _ _ _ _ _ _
   | exact ih2 _ _ _ _ _ _ _ _
   | exact spec_DependsOk.mono _ _
   | exact spec_SuccessorsOf.mono _ _ _
   | exact spec_l10Depths.mono _ _ _
   | exact LeO.none _
   | refine LeO.ite ?_ ?_
   | refine LeO.bind ?_ (fun _ => ?_)
  ·intro y0 y1 y2 y3 y4 y5
   unfold spec_ShortestCycle.l1
   repeat' first
   | (with_reducible exact ih0 _ _ _ _ _)
   | (with_reducible exact ih1 _ _ _ _ _ _)
   | (with_reducible exact ih2 _ _ _ _ _ _ _ _)
   | (with_reducible exact spec_DependsOk.mono _ _)
   | (with_reducible exact spec_SuccessorsOf.mono _ _ _)
   | (with_reducible exact spec_l10Depths.mono _ _ _)
   | (with_reducible exact LeO.refl _)
   | (with_reducible exact LeO.none _)
   | (with_reducible refine LeO.ite ?_ ?_)
   | (with_reducible refine LeO.bind ?_ (fun _ => ?_))
   | exact ih0 _ _ _ _ _
   | exact ih1 _ _ _ _ _ _
   | exact ih2 _ _ _ _ _ _ _ _
   | exact spec_DependsOk.mono _ _
   | exact spec_SuccessorsOf.mono _ _ _
   | exact spec_l10Depths.mono _ _ _
   | exact LeO.none _
   | refine LeO.ite ?_ ?_
   | refine LeO.bind ?_ (fun _ => ?_)
  ·intro y0 y1 y2 y3 y4 y5 y6 y7
   unfold spec_ShortestCycle.l2
   repeat' first
   | (with_reducible exact ih0 _ _ _ _ _)
   | (with_reducible exact ih1 _ _ _ _ _ _)
   | (with_reducible exact ih2 _ _ _ _ _ _ _ _)
   | (with_reducible exact spec_DependsOk.mono _ _)
   | (with_reducible exact spec_SuccessorsOf.mono _ _ _)
   | (with_reducible exact spec_l10Depths.mono _ _ _)
   | (with_reducible exact LeO.refl _)
   | (with_reducible exact LeO.none _)
   | (with_reducible refine LeO.ite ?_ ?_)
   | (with_reducible refine LeO.bind ?_ (fun _ => ?_))
   | exact ih0 _ _ _ _ _
   | exact ih1 _ _ _ _ _ _
   | exact ih2 _ _ _ _ _ _ _ _
   | exact spec_DependsOk.mono _ _
   | exact spec_SuccessorsOf.mono _ _ _
   | exact spec_l10Depths.mono _ _ _
   | exact LeO.none _
   | refine LeO.ite ?_ ?_
   | refine LeO.bind ?_ (fun _ => ?_)
theorem spec_ShortestCycle.mono : ∀ a0 k, LeO (spec_ShortestCycle.f k a0) (spec_ShortestCycle.f (k + 1) a0) := by
 intro a0 k
 obtain ⟨ih0, ih1, ih2⟩ := spec_ShortestCycle.mono_l k
 unfold spec_ShortestCycle.f
 repeat' first
   | (with_reducible exact ih0 _ _ _ _ _)
   | (with_reducible exact ih1 _ _ _ _ _ _)
   | (with_reducible exact ih2 _ _ _ _ _ _ _ _)
   | (with_reducible exact spec_DependsOk.mono _ _)
   | (with_reducible exact spec_SuccessorsOf.mono _ _ _)
   | (with_reducible exact spec_l10Depths.mono _ _ _)
   | (with_reducible exact LeO.refl _)
   | (with_reducible exact LeO.none _)
   | (with_reducible refine LeO.ite ?_ ?_)
   | (with_reducible refine LeO.bind ?_ (fun _ => ?_))
   | exact ih0 _ _ _ _ _
   | exact ih1 _ _ _ _ _ _
   | exact ih2 _ _ _ _ _ _ _ _
   | exact spec_DependsOk.mono _ _
   | exact spec_SuccessorsOf.mono _ _ _
   | exact spec_l10Depths.mono _ _ _
   | exact LeO.none _
   | refine LeO.ite ?_ ?_
   | refine LeO.bind ?_ (fun _ => ?_)
theorem spec_ShortestCycle.e0 {P : Prop} (h : P := by
 go_wp2_with (first | ((with_reducible refine gate_callee (f := 114) rfl ?_); refine gm_ (some 24) Try.func114 #[.slice A0 l0.length c0, .int .i64 x6_1] rfl ?_; (with_reducible refine (spec_SuccessorsOf.calls k1 _ _ l0 x6_1 t287 _ ?side1 HC0.out A8.out).mono ?_); (case side1 => exact cb_ HR0.out HB.out); rintro e w_0 ⟨v288, rfl, ho0, hb⟩; refine ⟨_, rfl, ?_⟩; have HO289 := Aside0.mk (Kd.R_lower (Kd.R_new' ho0 (rl_ HO_3.out)) (bz_ HB.out)); replace HO_3 := Aside0.mk (Kd.R_elder' (ra_ HO_3.out) (Kd.R_base ho0) hb); replace HB := Aside0.mk (bs_ HB.out hb); (try clear hb); (try clear ho0); obtain ⟨Ao11, co11, eo11⟩ := Kd.R_slice HO289.out; subst eo11) | ((with_reducible refine gate_callee (f := 114) rfl ?_); refine gm_ (some 24) Try.func114 #[.slice A0 l0.length c0, .int .i64 x6_1] rfl ?_; (with_reducible refine (spec_SuccessorsOf.calls k1 _ _ l0 x6_1 t287 _ ?side1 HC0.out A8.out).mono ?_); (case side1 => exact cb_ HR0.out HB.out); rintro e w_0 ⟨v288, rfl, ho0, hb⟩; refine ⟨_, rfl, ?_⟩; have HO289 := Aside0.mk (Kd.R_lower (Kd.R_new' ho0 (rl_ HO_3.out)) (bz_ HB.out)); replace HO_3 := Aside0.mk (Kd.R_elder' (ra_ HO_3.out) (Kd.R_base ho0) hb); replace HB := Aside0.mk (bs_ HB.out hb); (try clear hb); (try clear ho0); obtain ⟨Ao27, co27, eo27⟩ := Kd.R_slice HO289.out; subst eo27) | ((with_reducible refine gate_callee (f := 115) rfl ?_); refine gm_ (some 29) Try.func115 #[.slice A0 l0.length c0, .int .i64 x6_1] rfl ?_; (with_reducible refine (spec_l10Depths.calls k1 _ _ l0 x6_1 t290 _ ?side1 HC0.out A12.out).mono ?_); (case side1 => exact cb_ HR0.out HB.out); rintro e w_0 ⟨v291, rfl, ho0, hb⟩; refine ⟨_, rfl, ?_⟩; have HO292 := Aside0.mk (Kd.R_lower (Kd.R_new' (Kd.R_new' ho0 (rl_ HO_3.out)) (rl_ HO289.out)) (bz_ HB.out)); replace HO_3 := Aside0.mk (Kd.R_elder' (ra_ HO_3.out) (Kd.R_base ho0) hb); replace HO289 := Aside0.mk (Kd.R_elder' (ra_ HO289.out) (Kd.R_base ho0) hb); replace HB := Aside0.mk (bs_ HB.out hb); (try clear hb); (try clear ho0); obtain ⟨Ao29, co29, eo29⟩ := Kd.R_slice HO292.out; subst eo29; have p293 : 0 ≤ (x6_1 : Int) := of_decide_eq_true dg_; have q293 : x6_1 < (t290.length : Int) := of_decide_eq_true dg_; obtain ⟨ad293, e293, hx293_0⟩ := Kd.at_int (Kd.R_reads' HO292.out).2.2 x6_1 p293 q293; cases e293; replace p293 := eq_true p293; replace q293 := eq_true q293) | ((with_reducible refine gate_callee (f := 114) rfl ?_); refine gm_ (some 24) Try.func114 #[.slice A0 l0.length c0, .int .i64 x6_1] rfl ?_; (with_reducible refine (spec_SuccessorsOf.calls k1 _ _ l0 x6_1 t287 _ ?side1 HC0.out A8.out).mono ?_); (case side1 => exact cb_ HR0.out HB.out); rintro e w_0 ⟨v288, rfl, ho0, hb⟩; refine ⟨_, rfl, ?_⟩; have HO289 := Aside0.mk (Kd.R_lower (Kd.R_new' ho0 (rl_ HO_3.out)) (bz_ HB.out)); replace HO_3 := Aside0.mk (Kd.R_elder' (ra_ HO_3.out) (Kd.R_base ho0) hb); replace HB := Aside0.mk (bs_ HB.out hb); (try clear hb); (try clear ho0); obtain ⟨Ao31, co31, eo31⟩ := Kd.R_slice HO289.out; subst eo31) | ((with_reducible refine gate_callee (f := 115) rfl ?_); refine gm_ (some 29) Try.func115 #[.slice A0 l0.length c0, .int .i64 x6_1] rfl ?_; (with_reducible refine (spec_l10Depths.calls k1 _ _ l0 x6_1 t290 _ ?side1 HC0.out A12.out).mono ?_); (case side1 => exact cb_ HR0.out HB.out); rintro e w_0 ⟨v291, rfl, ho0, hb⟩; refine ⟨_, rfl, ?_⟩; have HO292 := Aside0.mk (Kd.R_lower (Kd.R_new' (Kd.R_new' ho0 (rl_ HO_3.out)) (rl_ HO289.out)) (bz_ HB.out)); replace HO_3 := Aside0.mk (Kd.R_elder' (ra_ HO_3.out) (Kd.R_base ho0) hb); replace HO289 := Aside0.mk (Kd.R_elder' (ra_ HO289.out) (Kd.R_base ho0) hb); replace HB := Aside0.mk (bs_ HB.out hb); (try clear hb); (try clear ho0); obtain ⟨Ao33, co33, eo33⟩ := Kd.R_slice HO292.out; subst eo33; have p293 : 0 ≤ (x6_1 : Int) := of_decide_eq_true dg_; have q293 : x6_1 < (t290.length : Int) := of_decide_eq_true dg_; obtain ⟨ad293, e293, hx293_0⟩ := Kd.at_int (Kd.R_reads' HO292.out).2.2 x6_1 p293 q293; cases e293; replace p293 := eq_true p293; replace q293 := eq_true q293))
 go_roundg k1
 case measure => have := HK1.out; omega
 case rel => exact ⟨(x4_1), (x5_1), (wrap64 (x6_1 + 1)), ef_, ef_, ef_, H', ⟨by have := HK1.out; omega⟩, ⟨by (with_reducible repeat (first | apply Kd.R_alloc | apply Kd.R_drewN | apply Kd.R_drew)); exact Kd.R_mono HO_3.out (fun _ hk => trivial)⟩, ⟨bb_ HB.out⟩⟩) : P := h
theorem spec_ShortestCycle.e1 {P : Prop} (h : P := by
 go_wp2_with (first | ((with_reducible refine gate_callee (f := 114) rfl ?_); refine gm_ (some 24) Try.func114 #[.slice A0 l0.length c0, .int .i64 x6_1] rfl ?_; (with_reducible refine (spec_SuccessorsOf.calls k1 _ _ l0 x6_1 t287 _ ?side1 HC0.out A8.out).mono ?_); (case side1 => exact cb_ HR0.out HB.out); rintro e w_0 ⟨v288, rfl, ho0, hb⟩; refine ⟨_, rfl, ?_⟩; have HO289 := Aside0.mk (Kd.R_lower (Kd.R_new' ho0 (rl_ HO_3.out)) (bz_ HB.out)); replace HO_3 := Aside0.mk (Kd.R_elder' (ra_ HO_3.out) (Kd.R_base ho0) hb); replace HB := Aside0.mk (bs_ HB.out hb); (try clear hb); (try clear ho0); obtain ⟨Ao18, co18, eo18⟩ := Kd.R_slice HO289.out; subst eo18) | ((with_reducible refine gate_callee (f := 115) rfl ?_); refine gm_ (some 29) Try.func115 #[.slice A0 l0.length c0, .int .i64 x6_1] rfl ?_; (with_reducible refine (spec_l10Depths.calls k1 _ _ l0 x6_1 t290 _ ?side1 HC0.out A12.out).mono ?_); (case side1 => exact cb_ HR0.out HB.out); rintro e w_0 ⟨v291, rfl, ho0, hb⟩; refine ⟨_, rfl, ?_⟩; have HO292 := Aside0.mk (Kd.R_lower (Kd.R_new' (Kd.R_new' ho0 (rl_ HO_3.out)) (rl_ HO289.out)) (bz_ HB.out)); replace HO_3 := Aside0.mk (Kd.R_elder' (ra_ HO_3.out) (Kd.R_base ho0) hb); replace HO289 := Aside0.mk (Kd.R_elder' (ra_ HO289.out) (Kd.R_base ho0) hb); replace HB := Aside0.mk (bs_ HB.out hb); (try clear hb); (try clear ho0); obtain ⟨Ao20, co20, eo20⟩ := Kd.R_slice HO292.out; subst eo20; have p293 : 0 ≤ (x6_1 : Int) := of_decide_eq_true dg_; have q293 : x6_1 < (t290.length : Int) := of_decide_eq_true dg_; obtain ⟨ad293, e293, hx293_0⟩ := Kd.at_int (Kd.R_reads' HO292.out).2.2 x6_1 p293 q293; cases e293; replace p293 := eq_true p293; replace q293 := eq_true q293) | ((with_reducible refine gate_callee (f := 114) rfl ?_); refine gm_ (some 24) Try.func114 #[.slice A0 l0.length c0, .int .i64 x6_1] rfl ?_; (with_reducible refine (spec_SuccessorsOf.calls k1 _ _ l0 x6_1 t287 _ ?side1 HC0.out A8.out).mono ?_); (case side1 => exact cb_ HR0.out HB.out); rintro e w_0 ⟨v288, rfl, ho0, hb⟩; refine ⟨_, rfl, ?_⟩; have HO289 := Aside0.mk (Kd.R_lower (Kd.R_new' ho0 (rl_ HO_3.out)) (bz_ HB.out)); replace HO_3 := Aside0.mk (Kd.R_elder' (ra_ HO_3.out) (Kd.R_base ho0) hb); replace HB := Aside0.mk (bs_ HB.out hb); (try clear hb); (try clear ho0); obtain ⟨Ao23, co23, eo23⟩ := Kd.R_slice HO289.out; subst eo23) | ((with_reducible refine gate_callee (f := 115) rfl ?_); refine gm_ (some 29) Try.func115 #[.slice A0 l0.length c0, .int .i64 x6_1] rfl ?_; (with_reducible refine (spec_l10Depths.calls k1 _ _ l0 x6_1 t290 _ ?side1 HC0.out A12.out).mono ?_); (case side1 => exact cb_ HR0.out HB.out); rintro e w_0 ⟨v291, rfl, ho0, hb⟩; refine ⟨_, rfl, ?_⟩; have HO292 := Aside0.mk (Kd.R_lower (Kd.R_new' (Kd.R_new' ho0 (rl_ HO_3.out)) (rl_ HO289.out)) (bz_ HB.out)); replace HO_3 := Aside0.mk (Kd.R_elder' (ra_ HO_3.out) (Kd.R_base ho0) hb); replace HO289 := Aside0.mk (Kd.R_elder' (ra_ HO289.out) (Kd.R_base ho0) hb); replace HB := Aside0.mk (bs_ HB.out hb); (try clear hb); (try clear ho0); obtain ⟨Ao25, co25, eo25⟩ := Kd.R_slice HO292.out; subst eo25; have p293 : 0 ≤ (x6_1 : Int) := of_decide_eq_true dg_; have q293 : x6_1 < (t290.length : Int) := of_decide_eq_true dg_; obtain ⟨ad293, e293, hx293_0⟩ := Kd.at_int (Kd.R_reads' HO292.out).2.2 x6_1 p293 q293; cases e293; replace p293 := eq_true p293; replace q293 := eq_true q293))
 go_roundg k1
 case measure => have := HK1.out; omega
 case rel => exact ⟨(rd t290 x6_1), (x6_1), (wrap64 (x6_1 + 1)), ef_, ef_, ef_, H', ⟨by have := HK1.out; omega⟩, ⟨by (with_reducible repeat (first | apply Kd.R_alloc | apply Kd.R_drewN | apply Kd.R_drew)); exact Kd.R_mono HO_3.out (fun _ hk => trivial)⟩, ⟨bb_ HB.out⟩⟩) : P := h
theorem spec_ShortestCycle.e2 {P : Prop} (h : P := by
 go_wp2_with (first | (go_at_call 115; (with_reducible refine (spec_l10Depths.calls k3 _ _ l0 (rd t297 x11_3) t304 _ ?side1 HC0.out A45.out).mono ?_); (case side1 => exact cb_ HR0.out HB.out); rintro e w_0 ⟨v305, rfl, ho0, hb⟩; have HO306 := Aside0.mk (Kd.R_lower (Kd.R_new' (Kd.R_new' ho0 (rl_ HO_3.out)) (rl_ HO_10.out)) (bz_ HB.out)); replace HO_3 := Aside0.mk (Kd.R_elder' (ra_ HO_3.out) (Kd.R_base ho0) hb); replace HO_10 := Aside0.mk (Kd.R_elder' (ra_ HO_10.out) (Kd.R_base ho0) hb); replace HB := Aside0.mk (bs_ HB.out hb); (try clear hb); (try clear ho0); obtain ⟨Ao51, co51, eo51⟩ := Kd.R_slice HO306.out; subst eo51; have p307 : 0 ≤ (x5_1 : Int) := of_decide_eq_true dg_; have q307 : x5_1 < (t304.length : Int) := of_decide_eq_true dg_; obtain ⟨ad307, e307, hx307_0⟩ := Kd.at_int (Kd.R_reads' HO306.out).2.2 x5_1 p307 q307; cases e307; replace p307 := eq_true p307; replace q307 := eq_true q307; have p308 : 0 ≤ (x11_3 : Int) := of_decide_eq_true dg_; have q308 : x11_3 < (t297.length : Int) := of_decide_eq_true dg_; obtain ⟨ad308, e308, hx308_0⟩ := Kd.at_int (Kd.R_reads' HO_10.out).2.2 x11_3 p308 q308; obtain rfl : ad300 = ad308 := (by injection e308); replace p308 := eq_true p308; replace q308 := eq_true q308) | (go_at_call 115; (with_reducible refine (spec_l10Depths.calls k3 _ _ l0 (rd t297 x11_3) t311 _ ?side1 HC0.out A60.out).mono ?_); (case side1 => exact cb_ HR0.out HB.out); rintro e w_0 ⟨v312, rfl, ho0, hb⟩; have HO313 := Aside0.mk (Kd.R_lower (Kd.R_new' (Kd.R_new' ho0 (rl_ HO_3.out)) (rl_ HO_10.out)) (bz_ HB.out)); replace HO_3 := Aside0.mk (Kd.R_elder' (ra_ HO_3.out) (Kd.R_base ho0) hb); replace HO_10 := Aside0.mk (Kd.R_elder' (ra_ HO_10.out) (Kd.R_base ho0) hb); replace HB := Aside0.mk (bs_ HB.out hb); (try clear hb); (try clear ho0); obtain ⟨Ao66, co66, eo66⟩ := Kd.R_slice HO313.out; subst eo66; have p314 : 0 ≤ (x5_1 : Int) := of_decide_eq_true dg_; have q314 : x5_1 < (t311.length : Int) := of_decide_eq_true dg_; obtain ⟨ad314, e314, hx314_0⟩ := Kd.at_int (Kd.R_reads' HO313.out).2.2 x5_1 p314 q314; cases e314; replace p314 := eq_true p314; replace q314 := eq_true q314; have p315 : 0 ≤ (x11_3 : Int) := of_decide_eq_true dg_; have q315 : x11_3 < (t297.length : Int) := of_decide_eq_true dg_; obtain ⟨ad315, e315, hx315_0⟩ := Kd.at_int (Kd.R_reads' HO_10.out).2.2 x11_3 p315 q315; obtain rfl : ad309 = ad315 := (by injection e315); replace p315 := eq_true p315; replace q315 := eq_true q315))
 go_roundg k3
 case measure => have := HK1.out; have := HK2.out; have := HK3.out; omega
 case rel => exact ⟨(y294), (rd t297 x11_3), (wrap64 (x9_2 + 1)), ef_, ef_, H', ⟨by have := HK1.out; have := HK2.out; have := HK3.out; omega⟩, ⟨by (with_reducible repeat (first | apply Kd.R_alloc | apply Kd.R_drewN | apply Kd.R_drew)); exact Kd.R_mono HO_3.out (fun _ hk => trivial)⟩, ⟨bb_ HB.out⟩⟩) : P := h
theorem spec_ShortestCycle.e3 {P : Prop} (h : P := by
 go_wp2_with (first | (go_at_call 115; (with_reducible refine (spec_l10Depths.calls k3 _ _ l0 (rd t297 x11_3) t304 _ ?side1 HC0.out A45.out).mono ?_); (case side1 => exact cb_ HR0.out HB.out); rintro e w_0 ⟨v305, rfl, ho0, hb⟩; have HO306 := Aside0.mk (Kd.R_lower (Kd.R_new' (Kd.R_new' ho0 (rl_ HO_3.out)) (rl_ HO_10.out)) (bz_ HB.out)); replace HO_3 := Aside0.mk (Kd.R_elder' (ra_ HO_3.out) (Kd.R_base ho0) hb); replace HO_10 := Aside0.mk (Kd.R_elder' (ra_ HO_10.out) (Kd.R_base ho0) hb); replace HB := Aside0.mk (bs_ HB.out hb); (try clear hb); (try clear ho0); obtain ⟨Ao54, co54, eo54⟩ := Kd.R_slice HO306.out; subst eo54; have p307 : 0 ≤ (x5_1 : Int) := of_decide_eq_true dg_; have q307 : x5_1 < (t304.length : Int) := of_decide_eq_true dg_; obtain ⟨ad307, e307, hx307_0⟩ := Kd.at_int (Kd.R_reads' HO306.out).2.2 x5_1 p307 q307; cases e307; replace p307 := eq_true p307; replace q307 := eq_true q307) | (go_at_call 115; (with_reducible refine (spec_l10Depths.calls k3 _ _ l0 (rd t297 x11_3) t311 _ ?side1 HC0.out A60.out).mono ?_); (case side1 => exact cb_ HR0.out HB.out); rintro e w_0 ⟨v312, rfl, ho0, hb⟩; have HO313 := Aside0.mk (Kd.R_lower (Kd.R_new' (Kd.R_new' ho0 (rl_ HO_3.out)) (rl_ HO_10.out)) (bz_ HB.out)); replace HO_3 := Aside0.mk (Kd.R_elder' (ra_ HO_3.out) (Kd.R_base ho0) hb); replace HO_10 := Aside0.mk (Kd.R_elder' (ra_ HO_10.out) (Kd.R_base ho0) hb); replace HB := Aside0.mk (bs_ HB.out hb); (try clear hb); (try clear ho0); obtain ⟨Ao69, co69, eo69⟩ := Kd.R_slice HO313.out; subst eo69; have p314 : 0 ≤ (x5_1 : Int) := of_decide_eq_true dg_; have q314 : x5_1 < (t311.length : Int) := of_decide_eq_true dg_; obtain ⟨ad314, e314, hx314_0⟩ := Kd.at_int (Kd.R_reads' HO313.out).2.2 x5_1 p314 q314; cases e314; replace p314 := eq_true p314; replace q314 := eq_true q314))
 go_roundg k3
 case measure => have := HK1.out; have := HK2.out; have := HK3.out; omega
 case rel => exact ⟨(x8_3), (wrap64 (x11_3 + 1)), ef_, ef_, H', ⟨by have := HK1.out; have := HK2.out; have := HK3.out; omega⟩, ⟨by (with_reducible repeat (first | apply Kd.R_alloc | apply Kd.R_drewN | apply Kd.R_drew)); exact Kd.R_mono HO_3.out (fun _ hk => hk.1)⟩, ⟨by (with_reducible repeat (first | apply Kd.R_alloc | apply Kd.R_drewN | apply Kd.R_drew)); exact Kd.R_mono HO_10.out (fun _ hk => hk.1)⟩, ⟨bb_ HB.out⟩⟩) : P := h
theorem spec_ShortestCycle.e4 {P : Prop} (h : P := by
 go_wp2
 go_roundg k3
 case measure => have := HK1.out; have := HK2.out; have := HK3.out; omega
 case rel => exact ⟨(x8_3), (wrap64 (x11_3 + 1)), ef_, ef_, H', ⟨by have := HK1.out; have := HK2.out; have := HK3.out; omega⟩, ⟨by (with_reducible repeat (first | apply Kd.R_alloc | apply Kd.R_drewN | apply Kd.R_drew)); exact HO_3.out⟩, ⟨by (with_reducible repeat (first | apply Kd.R_alloc | apply Kd.R_drewN | apply Kd.R_drew)); exact HO_10.out⟩, ⟨bb_ HB.out⟩⟩) : P := h
theorem spec_ShortestCycle.calls (k : Nat) (A0 : Option Addr) (c0 : Nat) (l0 : List (S94)) (r : List Int) (w : World) (hr0 : Kd.C k94 w A0 l0.length l0) (hc0 : l0.length ≤ c0) (h : spec_ShortestCycle.f k l0 = some r) :
  Calls Try.prog 76 #[.slice A0 l0.length c0] w fun e w' => ∃ v0_ : Value, e = .returned (v0_) ∧ Kd.R (Kd.int .i64) 3 w' w.heap.size (fun _ => True) v0_ r ∧ Below w.heap.size w w' := by
 have HR0 := Aside0.mk hr0
 have HC0 := Aside0.mk hc0
 clear hr0 hc0
 have HB := Aside0.mk (Below.refl w.heap.size w)
 have H : ((some (([] : List Int) : List Int)).bind fun y283 => ((spec_DependsOk.f k l0).bind fun t286 => (if t286 = true then (spec_ShortestCycle.l0 k l0 y283 0 (-1) 0) else (some y283)))) = some r := h
 clear h
 obtain ⟨y283, hy283⟩ : ∃ y_ : List Int, y_ = (([] : List Int)) := ⟨_, rfl⟩
 replace H : ((spec_DependsOk.f k l0).bind fun t286 => (if t286 = true then (spec_ShortestCycle.l0 k l0 y283 0 (-1) 0) else (some y283))) = some r := by first | (rw [hy283]; with_reducible exact H) | (have H2_ := (Option.bind_some _ _).symm.trans H; rw [hy283]; with_reducible exact H2_) | (have H2_ := (Option.bind_some _ _).symm.trans H; with_reducible exact H2_) | with_reducible exact H | (rw [hy283]; exact H) | exact H
 have Ny283 := Aside0.mk hy283
 clear hy283
 replace H := Option.bind_eq_some_iff.mp H
 obtain ⟨t286, A20, H⟩ := H
 try dsimp only at H
 have A2 := Aside0.mk A20
 clear A20
 by_cases c3 : t286 = true
 ·subst c3
  rw [if_pos rfl] at H
  have H' := Aside0.mk H
  clear H
  go_enter Try.func76, Try.ntmps76
  go_wp2_with (first | ((with_reducible refine gate_dst (N := 13) rfl ?_); refine Kd.R_lit (Kd.int .i64) _ 3 ?hg (N := 13) ?hd (xs := ([] : List Int)) (inner := []) (ok := fun _ => True) (okp := fun _ => True) ?hr ?hp (fun _ hk => hk) trivial (Below.refl _ _) (Nat.le_refl _) (by simp) ?_; (case hd => rfl); (case hg => rfl); (case hr => first | (go_simp; done) | (go_simp; rfl)); (case hp => exact (Reps.none _ _)); intro v284 w4 ho5 hb hg_ hnew_; clear hg_ hnew_; (first | rw [← Ny283.out] at ho5 | (simp only [Int.reduceToNat] at ho5; rw [← Ny283.out] at ho5)); have HO285 := Aside0.mk (Kd.R_lower ho5 (bz_ HB.out)); replace HB := Aside0.mk (bs_ HB.out hb); clear hb ho5) | ((with_reducible refine gate_callee (f := 112) rfl ?_); refine gm_ (some 15) Try.func112 #[.slice A0 l0.length c0] rfl ?_; (with_reducible refine (spec_DependsOk.calls k _ _ l0 true _ ?side1 HC0.out A2.out).mono ?_); (case side1 => exact cb_ HR0.out HB.out); rintro e w6 ⟨rfl, hb⟩; refine ⟨_, rfl, ?_⟩; replace HO285 := Aside0.mk (Kd.R_below (ra_ HO285.out) hb); replace HB := Aside0.mk (bs_ HB.out hb); (try clear hb)))
  go_loopg [4, 5, 6] k (fun kq v4 v5 v6 w' => ∃ (x4_1 : Int) (x5_1 : Int) (x6_1 : Int), v4 = .int .i64 x4_1 ∧ v5 = .int .i64 x5_1 ∧ v6 = .int .i64 x6_1 ∧ Aside0 (spec_ShortestCycle.l0 kq l0 y283 x4_1 x5_1 x6_1 = some r) ∧ Aside0 (kq ≤ k) ∧ Aside0 (Kd.R (Kd.int .i64) 3 w' w.heap.size (fun _ => True) v284 y283) ∧ Aside0 (Below w.heap.size w w'))
  case atStart => exact ⟨(0), ((-1)), (0), ef_, ef_, ef_, H', ⟨Nat.le_refl _⟩, ⟨by (with_reducible repeat (first | apply Kd.R_alloc | apply Kd.R_drewN | apply Kd.R_drew)); exact HO285.out⟩, ⟨bb_ HB.out⟩⟩
  clear H'
  try clear c3
  obtain ⟨x4_1, x5_1, x6_1, rfl, rfl, rfl, HA, HK1, HO_3, HB⟩ := hrel
  obtain _ | k1 := gk
  ·exact absurd HA.out (by simp [spec_ShortestCycle.l0])
  have H := HA.out
  clear HA
  simp only [spec_ShortestCycle.l0] at H
  by_cases c7 : x6_1 < 128
  ·rw [if_pos c7] at H
   have c7b0 : decide (x6_1 < 128) = true := decide_eq_true c7
   clear c7
   replace H := Option.bind_eq_some_iff.mp H
   obtain ⟨t287, A80, H⟩ := H
   try dsimp only at H
   have A8 := Aside0.mk A80
   clear A80
   by_cases c9 : (t287.length : Int) = 0
   ·rw [if_pos c9] at H
    have c9b0 : ((t287.length : Int) == 0) = true := beq_iff_eq.mpr c9
    have c9b1 : ((t287.length : Int) != 0) = false := bne_eq_false_iff_eq.mpr c9
    clear c9
    have H' := Aside0.mk H
    clear H
    exact spec_ShortestCycle.e0
   rw [if_neg c9] at H
   have c9b0 : ((t287.length : Int) == 0) = false := beq_eq_false_iff_ne.mpr c9
   have c9b1 : ((t287.length : Int) != 0) = true := bne_iff_ne.mpr c9
   have c9b2 : ¬ (t287 = []) := fun h_ => c9 (by rw [h_]; rfl)
   replace H := Option.bind_eq_some_iff.mp H
   obtain ⟨t290, A120, H⟩ := H
   try dsimp only at H
   have A12 := Aside0.mk A120
   clear A120
   by_cases c13 : 0 ≤ x6_1
   rotate_left
   ·rw [if_neg c13] at H
    exact absurd H (by simp)
   rw [if_pos c13] at H
   have c13b0 : decide (0 ≤ x6_1) = true := decide_eq_true c13
   clear c13
   by_cases c14 : x6_1 < (t290.length : Int)
   rotate_left
   ·rw [if_neg c14] at H
    exact absurd H (by simp)
   rw [if_pos c14] at H
   have c14b0 : decide (x6_1 < (t290.length : Int)) = true := decide_eq_true c14
   clear c14
   by_cases c15 : (rd t290 x6_1) > 0
   rotate_left
   ·rw [if_neg c15] at H
    have c15b0 : decide (0 < (rd t290 x6_1)) = false := decide_eq_false c15
    clear c15
    have H' := Aside0.mk H
    clear H
    exact spec_ShortestCycle.e0
   rw [if_pos c15] at H
   have c15b0 : decide (0 < (rd t290 x6_1)) = true := decide_eq_true c15
   clear c15
   by_cases c16 : x4_1 = 0
   ·rw [if_pos c16] at H
    have c16b0 : (x4_1 == 0) = true := beq_iff_eq.mpr c16
    have c16b1 : (x4_1 != 0) = false := bne_eq_false_iff_eq.mpr c16
    clear c16
    have H' := Aside0.mk H
    clear H
    exact spec_ShortestCycle.e1
   rw [if_neg c16] at H
   have c16b0 : (x4_1 == 0) = false := beq_eq_false_iff_ne.mpr c16
   have c16b1 : (x4_1 != 0) = true := bne_iff_ne.mpr c16
   by_cases c21 : (rd t290 x6_1) < x4_1
   ·rw [if_pos c21] at H
    have c21b0 : decide ((rd t290 x6_1) < x4_1) = true := decide_eq_true c21
    clear c21
    have H' := Aside0.mk H
    clear H
    exact spec_ShortestCycle.e1
   rw [if_neg c21] at H
   have c21b0 : decide ((rd t290 x6_1) < x4_1) = false := decide_eq_false c21
   clear c21
   have H' := Aside0.mk H
   clear H
   exact spec_ShortestCycle.e0
  rw [if_neg c7] at H
  have c7b0 : decide (x6_1 < 128) = false := decide_eq_false c7
  clear c7
  have H' := Aside0.mk H
  clear H
  go_wp2
  go_loopg [3, 8, 9] k1 (fun kq v3 v8 v9 w' => ∃ (x3_2 : List Int) (x8_2 : Int) (x9_2 : Int), v8 = .int .i64 x8_2 ∧ v9 = .int .i64 x9_2 ∧ Aside0 (spec_ShortestCycle.l1 kq l0 x3_2 x4_1 x5_1 x8_2 x9_2 = some r) ∧ Aside0 (kq ≤ k1) ∧ Aside0 (Kd.R (Kd.int .i64) 3 w' w.heap.size (fun _ => True) v3 x3_2) ∧ Aside0 (Below w.heap.size w w'))
  case atStart => exact ⟨(y283), (x5_1), (0), ef_, ef_, H', ⟨Nat.le_refl _⟩, ⟨by (with_reducible repeat (first | apply Kd.R_alloc | apply Kd.R_drewN | apply Kd.R_drew)); exact HO_3.out⟩, ⟨bb_ HB.out⟩⟩
  clear H'
  try clear c3
  try clear c7
  try clear c7b0
  obtain ⟨x3_2, x8_2, x9_2, rfl, rfl, HA, HK2, HO_3, HB⟩ := hrel
  obtain _ | k2 := gk
  ·exact absurd HA.out (by simp [spec_ShortestCycle.l1])
  have H := HA.out
  clear HA
  simp only [spec_ShortestCycle.l1] at H
  by_cases c34 : x9_2 < x4_1
  rotate_left
  ·rw [if_neg c34] at H
   have c34b0 : decide (x9_2 < x4_1) = false := decide_eq_false c34
   clear c34
   obtain rfl := Option.some.inj H
   go_wp2
   go_ret
   exact ⟨_, fin_, by (with_reducible repeat (first | apply Kd.R_alloc | apply Kd.R_drewN | apply Kd.R_drew)); exact HO_3.out, bb_ HB.out⟩
  rw [if_pos c34] at H
  have c34b0 : decide (x9_2 < x4_1) = true := decide_eq_true c34
  clear c34
  by_cases c35 : x3_2.length < 17592186044416
  rotate_left
  ·rw [if_neg c35] at H
   exact absurd H (by simp)
  rw [if_pos c35] at H
  have LMc35 := Aside0.mk c35
  clear c35
  obtain ⟨y294, hy294⟩ : ∃ y_ : List Int, y_ = (x3_2 ++ [x8_2]) := ⟨_, rfl⟩
  replace H : ((spec_SuccessorsOf.f k2 l0 x8_2).bind fun t297 => (spec_ShortestCycle.l2 k2 l0 y294 x4_1 x5_1 x8_2 x9_2 t297 0)) = some r := by first | (rw [hy294]; with_reducible exact H) | (have H2_ := (Option.bind_some _ _).symm.trans H; rw [hy294]; with_reducible exact H2_) | (have H2_ := (Option.bind_some _ _).symm.trans H; with_reducible exact H2_) | with_reducible exact H | (rw [hy294]; exact H) | exact H
  have Ny294 := Aside0.mk hy294
  clear hy294
  replace H := Option.bind_eq_some_iff.mp H
  obtain ⟨t297, A360, H⟩ := H
  try dsimp only at H
  have A36 := Aside0.mk A360
  clear A360
  have H' := Aside0.mk H
  clear H
  go_wp2_with (first | ((with_reducible refine gate_builtin (b := .append) (xs := #[.tmp 52, .tmp 54]) rfl ?_); at_builtin; refine Kd.R_append (Kd.int .i64) (w0 := w) w.heap.size rfl (.tmp 52) (.tmp 54) 29 3 (.int .i64 0) 8 rfl Try.underlying29 info3 rfl (by decide) (by omega) u3 x3_2 x8_2 [.int .i64 x8_2] (fun _ => True) (fun _ => False) rfl rfl ?aP (fun _ hk => hk.elim) ?aF ?aO ?aB ?aS ?aL ?_; (case aP => exact rfl); (case aB => exact (by repeat (first | (with_reducible first | exact HB.out | apply below_alloc | apply pw_below_drewN | apply below_drew1) | exact HB.out))); (case aF => exact (fun _ _ => trivial)); (case aO => exact (ra_ HO_3.out)); (case aS => exact (bz_ HB.out)); (case aL => have := LMc35.out; omega); intro v295 w37 ho hb hg hat; rw [← Ny294.out] at ho; have n0_ := Aside0.mk (hb); have n1_ := Aside0.mk (ho); clear HB; clear HO_3; have HB := n0_; have HO296 := n1_; clear n0_ n1_; clear ho hb hg hat) | ((with_reducible refine gate_callee (f := 114) rfl ?_); refine gm_ (some 58) Try.func114 #[.slice A0 l0.length c0, .int .i64 x8_2] rfl ?_; (with_reducible refine (spec_SuccessorsOf.calls k2 _ _ l0 x8_2 t297 _ ?side1 HC0.out A36.out).mono ?_); (case side1 => exact cb_ HR0.out HB.out); rintro e w38 ⟨v298, rfl, ho0, hb⟩; refine ⟨_, rfl, ?_⟩; have HO299 := Aside0.mk (Kd.R_lower (Kd.R_new' ho0 (rl_ HO296.out)) (bz_ HB.out)); replace HO296 := Aside0.mk (Kd.R_elder' (ra_ HO296.out) (Kd.R_base ho0) hb); replace HB := Aside0.mk (bs_ HB.out hb); (try clear hb); (try clear ho0)))
  go_loopg [8, 11] k2 (fun kq v8 v11 w' => ∃ (x8_3 : Int) (x11_3 : Int), v8 = .int .i64 x8_3 ∧ v11 = .int .i64 x11_3 ∧ Aside0 (spec_ShortestCycle.l2 kq l0 y294 x4_1 x5_1 x8_3 x9_2 t297 x11_3 = some r) ∧ Aside0 (kq ≤ k2) ∧ Aside0 (Kd.R (Kd.int .i64) 3 w' w.heap.size (fun k_ => some k_ ≠ (v298 : Value).ownBlock) v295 y294) ∧ Aside0 (Kd.R (Kd.int .i64) 3 w' w.heap.size (fun k_ => some k_ ≠ (v295 : Value).ownBlock) v298 t297) ∧ Aside0 (Below w.heap.size w w'))
  case atStart => exact ⟨(x8_2), (0), ef_, ef_, H', ⟨Nat.le_refl _⟩, ⟨by (with_reducible repeat (first | apply Kd.R_alloc | apply Kd.R_drewN | apply Kd.R_drew)); exact Kd.R_mono HO296.out (fun _ hk => hk.2)⟩, ⟨by (with_reducible repeat (first | apply Kd.R_alloc | apply Kd.R_drewN | apply Kd.R_drew)); exact Kd.R_mono HO299.out (fun _ hk => hk.2)⟩, ⟨bb_ HB.out⟩⟩
  clear H'
  try clear c3
  try clear c7
  try clear c7b0
  try clear c34
  try clear c34b0
  try clear c35
  obtain ⟨x8_3, x11_3, rfl, rfl, HA, HK3, HO_3, HO_10, HB⟩ := hrel
  obtain _ | k3 := gk
  ·exact absurd HA.out (by simp [spec_ShortestCycle.l2])
  have H := HA.out
  clear HA
  simp only [spec_ShortestCycle.l2] at H
  by_cases c39 : x11_3 < (t297.length : Int)
  rotate_left
  ·rw [if_neg c39] at H
   have c39b0 : decide (x11_3 < (t297.length : Int)) = false := decide_eq_false c39
   clear c39
   have H' := Aside0.mk H
   clear H
   obtain ⟨Ao71, co71, eo71⟩ := Kd.R_slice HO_10.out
   subst eo71
   go_wp2
   go_roundg k3
   case measure => have := HK1.out; have := HK2.out; have := HK3.out; omega
   case rel => exact ⟨(y294), (x8_3), (wrap64 (x9_2 + 1)), ef_, ef_, H', ⟨by have := HK1.out; have := HK2.out; have := HK3.out; omega⟩, ⟨by (with_reducible repeat (first | apply Kd.R_alloc | apply Kd.R_drewN | apply Kd.R_drew)); exact Kd.R_mono HO_3.out (fun _ hk => trivial)⟩, ⟨bb_ HB.out⟩⟩
  rw [if_pos c39] at H
  have c39b0 : decide (x11_3 < (t297.length : Int)) = true := decide_eq_true c39
  clear c39
  by_cases c40 : (wrap64 ((wrap64 (x4_1 - x9_2)) - 1)) = 0
  rotate_left
  ·rw [if_neg c40] at H
   have c40b0 : ((wrap64 ((wrap64 (x4_1 - x9_2)) - 1)) == 0) = false := beq_eq_false_iff_ne.mpr c40
   have c40b1 : ((wrap64 ((wrap64 (x4_1 - x9_2)) - 1)) != 0) = true := bne_iff_ne.mpr c40
   by_cases c56 : (wrap64 ((wrap64 (x4_1 - x9_2)) - 1)) > 0
   rotate_left
   ·rw [if_neg c56] at H
    have c56b0 : decide (0 < (wrap64 ((wrap64 (x4_1 - x9_2)) - 1))) = false := decide_eq_false c56
    clear c56
    have H' := Aside0.mk H
    clear H
    obtain ⟨Ao70, co70, eo70⟩ := Kd.R_slice HO_10.out
    subst eo70
    exact spec_ShortestCycle.e4
   rw [if_pos c56] at H
   have c56b0 : decide (0 < (wrap64 ((wrap64 (x4_1 - x9_2)) - 1))) = true := decide_eq_true c56
   clear c56
   by_cases c57 : 0 ≤ x11_3
   rotate_left
   ·rw [if_neg c57] at H
    exact absurd H (by simp)
   rw [if_pos c57] at H
   have c57b0 : decide (0 ≤ x11_3) = true := decide_eq_true c57
   clear c57
   by_cases c58 : (rd t297 x11_3) = x5_1
   ·rw [if_pos c58] at H
    have c58b0 : ((rd t297 x11_3) == x5_1) = true := beq_iff_eq.mpr c58
    have c58b1 : ((rd t297 x11_3) != x5_1) = false := bne_eq_false_iff_eq.mpr c58
    clear c58
    have H' := Aside0.mk H
    clear H
    obtain ⟨Ao59, co59, eo59⟩ := Kd.R_slice HO_10.out
    subst eo59
    have p309 : 0 ≤ (x11_3 : Int) := of_decide_eq_true dg_
    have q309 : x11_3 < (t297.length : Int) := of_decide_eq_true dg_
    obtain ⟨ad309, e309, hx309_0⟩ := Kd.at_int (Kd.R_reads' HO_10.out).2.2 x11_3 p309 q309
    cases e309
    replace p309 := eq_true p309
    replace q309 := eq_true q309
    exact spec_ShortestCycle.e4
   rw [if_neg c58] at H
   have c58b0 : ((rd t297 x11_3) == x5_1) = false := beq_eq_false_iff_ne.mpr c58
   have c58b1 : ((rd t297 x11_3) != x5_1) = true := bne_iff_ne.mpr c58
   replace H := Option.bind_eq_some_iff.mp H
   obtain ⟨t311, A600, H⟩ := H
   try dsimp only at H
   have A60 := Aside0.mk A600
   clear A600
   by_cases c61 : 0 ≤ x5_1
   rotate_left
   ·rw [if_neg c61] at H
    exact absurd H (by simp)
   rw [if_pos c61] at H
   have c61b0 : decide (0 ≤ x5_1) = true := decide_eq_true c61
   clear c61
   by_cases c62 : x5_1 < (t311.length : Int)
   rotate_left
   ·rw [if_neg c62] at H
    exact absurd H (by simp)
   rw [if_pos c62] at H
   have c62b0 : decide (x5_1 < (t311.length : Int)) = true := decide_eq_true c62
   clear c62
   by_cases c63 : (rd t311 x5_1) = (wrap64 ((wrap64 (x4_1 - x9_2)) - 1))
   rotate_left
   ·rw [if_neg c63] at H
    have c63b0 : ((rd t311 x5_1) == (wrap64 ((wrap64 (x4_1 - x9_2)) - 1))) = false := beq_eq_false_iff_ne.mpr c63
    have c63b1 : ((rd t311 x5_1) != (wrap64 ((wrap64 (x4_1 - x9_2)) - 1))) = true := bne_iff_ne.mpr c63
    have H' := Aside0.mk H
    clear H
    obtain ⟨Ao67, co67, eo67⟩ := Kd.R_slice HO_10.out
    subst eo67
    have p309 : 0 ≤ (x11_3 : Int) := of_decide_eq_true dg_
    have q309 : x11_3 < (t297.length : Int) := of_decide_eq_true dg_
    obtain ⟨ad309, e309, hx309_0⟩ := Kd.at_int (Kd.R_reads' HO_10.out).2.2 x11_3 p309 q309
    cases e309
    replace p309 := eq_true p309
    replace q309 := eq_true q309
    have p310 : 0 ≤ (x11_3 : Int) := of_decide_eq_true dg_
    have q310 : x11_3 < (t297.length : Int) := of_decide_eq_true dg_
    obtain ⟨ad310, e310, hx310_0⟩ := Kd.at_int (Kd.R_reads' HO_10.out).2.2 x11_3 p310 q310
    obtain rfl : ad309 = ad310 := (by injection e310)
    replace p310 := eq_true p310
    replace q310 := eq_true q310
    exact spec_ShortestCycle.e3
   rw [if_pos c63] at H
   have c63b0 : ((rd t311 x5_1) == (wrap64 ((wrap64 (x4_1 - x9_2)) - 1))) = true := beq_iff_eq.mpr c63
   have c63b1 : ((rd t311 x5_1) != (wrap64 ((wrap64 (x4_1 - x9_2)) - 1))) = false := bne_eq_false_iff_eq.mpr c63
   clear c63
   have H' := Aside0.mk H
   clear H
   obtain ⟨Ao64, co64, eo64⟩ := Kd.R_slice HO_10.out
   subst eo64
   have p309 : 0 ≤ (x11_3 : Int) := of_decide_eq_true dg_
   have q309 : x11_3 < (t297.length : Int) := of_decide_eq_true dg_
   obtain ⟨ad309, e309, hx309_0⟩ := Kd.at_int (Kd.R_reads' HO_10.out).2.2 x11_3 p309 q309
   cases e309
   replace p309 := eq_true p309
   replace q309 := eq_true q309
   have p310 : 0 ≤ (x11_3 : Int) := of_decide_eq_true dg_
   have q310 : x11_3 < (t297.length : Int) := of_decide_eq_true dg_
   obtain ⟨ad310, e310, hx310_0⟩ := Kd.at_int (Kd.R_reads' HO_10.out).2.2 x11_3 p310 q310
   obtain rfl : ad309 = ad310 := (by injection e310)
   replace p310 := eq_true p310
   replace q310 := eq_true q310
   exact spec_ShortestCycle.e2
  rw [if_pos c40] at H
  have c40b0 : ((wrap64 ((wrap64 (x4_1 - x9_2)) - 1)) == 0) = true := beq_iff_eq.mpr c40
  have c40b1 : ((wrap64 ((wrap64 (x4_1 - x9_2)) - 1)) != 0) = false := bne_eq_false_iff_eq.mpr c40
  clear c40
  by_cases c41 : 0 ≤ x11_3
  rotate_left
  ·rw [if_neg c41] at H
   exact absurd H (by simp)
  rw [if_pos c41] at H
  have c41b0 : decide (0 ≤ x11_3) = true := decide_eq_true c41
  clear c41
  by_cases c42 : (rd t297 x11_3) = x5_1
  ·rw [if_pos c42] at H
   have c42b0 : ((rd t297 x11_3) == x5_1) = true := beq_iff_eq.mpr c42
   have c42b1 : ((rd t297 x11_3) != x5_1) = false := bne_eq_false_iff_eq.mpr c42
   clear c42
   have H' := Aside0.mk H
   clear H
   obtain ⟨Ao43, co43, eo43⟩ := Kd.R_slice HO_10.out
   subst eo43
   have p300 : 0 ≤ (x11_3 : Int) := of_decide_eq_true dg_
   have q300 : x11_3 < (t297.length : Int) := of_decide_eq_true dg_
   obtain ⟨ad300, e300, hx300_0⟩ := Kd.at_int (Kd.R_reads' HO_10.out).2.2 x11_3 p300 q300
   cases e300
   replace p300 := eq_true p300
   replace q300 := eq_true q300
   have p301 : 0 ≤ (x11_3 : Int) := of_decide_eq_true dg_
   have q301 : x11_3 < (t297.length : Int) := of_decide_eq_true dg_
   obtain ⟨ad301, e301, hx301_0⟩ := Kd.at_int (Kd.R_reads' HO_10.out).2.2 x11_3 p301 q301
   obtain rfl : ad300 = ad301 := (by injection e301)
   replace p301 := eq_true p301
   replace q301 := eq_true q301
   exact spec_ShortestCycle.e2
  rw [if_neg c42] at H
  have c42b0 : ((rd t297 x11_3) == x5_1) = false := beq_eq_false_iff_ne.mpr c42
  have c42b1 : ((rd t297 x11_3) != x5_1) = true := bne_iff_ne.mpr c42
  by_cases c44 : (wrap64 ((wrap64 (x4_1 - x9_2)) - 1)) > 0
  rotate_left
  ·rw [if_neg c44] at H
   have c44b0 : decide (0 < (wrap64 ((wrap64 (x4_1 - x9_2)) - 1))) = false := decide_eq_false c44
   clear c44
   have H' := Aside0.mk H
   clear H
   obtain ⟨Ao55, co55, eo55⟩ := Kd.R_slice HO_10.out
   subst eo55
   have p300 : 0 ≤ (x11_3 : Int) := of_decide_eq_true dg_
   have q300 : x11_3 < (t297.length : Int) := of_decide_eq_true dg_
   obtain ⟨ad300, e300, hx300_0⟩ := Kd.at_int (Kd.R_reads' HO_10.out).2.2 x11_3 p300 q300
   cases e300
   replace p300 := eq_true p300
   replace q300 := eq_true q300
   exact spec_ShortestCycle.e4
  rw [if_pos c44] at H
  have c44b0 : decide (0 < (wrap64 ((wrap64 (x4_1 - x9_2)) - 1))) = true := decide_eq_true c44
  clear c44
  replace H := Option.bind_eq_some_iff.mp H
  obtain ⟨t304, A450, H⟩ := H
  try dsimp only at H
  have A45 := Aside0.mk A450
  clear A450
  by_cases c46 : 0 ≤ x5_1
  rotate_left
  ·rw [if_neg c46] at H
   exact absurd H (by simp)
  rw [if_pos c46] at H
  have c46b0 : decide (0 ≤ x5_1) = true := decide_eq_true c46
  clear c46
  by_cases c47 : x5_1 < (t304.length : Int)
  rotate_left
  ·rw [if_neg c47] at H
   exact absurd H (by simp)
  rw [if_pos c47] at H
  have c47b0 : decide (x5_1 < (t304.length : Int)) = true := decide_eq_true c47
  clear c47
  by_cases c48 : (rd t304 x5_1) = (wrap64 ((wrap64 (x4_1 - x9_2)) - 1))
  rotate_left
  ·rw [if_neg c48] at H
   have c48b0 : ((rd t304 x5_1) == (wrap64 ((wrap64 (x4_1 - x9_2)) - 1))) = false := beq_eq_false_iff_ne.mpr c48
   have c48b1 : ((rd t304 x5_1) != (wrap64 ((wrap64 (x4_1 - x9_2)) - 1))) = true := bne_iff_ne.mpr c48
   have H' := Aside0.mk H
   clear H
   obtain ⟨Ao52, co52, eo52⟩ := Kd.R_slice HO_10.out
   subst eo52
   have p300 : 0 ≤ (x11_3 : Int) := of_decide_eq_true dg_
   have q300 : x11_3 < (t297.length : Int) := of_decide_eq_true dg_
   obtain ⟨ad300, e300, hx300_0⟩ := Kd.at_int (Kd.R_reads' HO_10.out).2.2 x11_3 p300 q300
   cases e300
   replace p300 := eq_true p300
   replace q300 := eq_true q300
   have p302 : 0 ≤ (x11_3 : Int) := of_decide_eq_true dg_
   have q302 : x11_3 < (t297.length : Int) := of_decide_eq_true dg_
   obtain ⟨ad302, e302, hx302_0⟩ := Kd.at_int (Kd.R_reads' HO_10.out).2.2 x11_3 p302 q302
   obtain rfl : ad300 = ad302 := (by injection e302)
   replace p302 := eq_true p302
   replace q302 := eq_true q302
   have p303 : 0 ≤ (x11_3 : Int) := of_decide_eq_true dg_
   have q303 : x11_3 < (t297.length : Int) := of_decide_eq_true dg_
   obtain ⟨ad303, e303, hx303_0⟩ := Kd.at_int (Kd.R_reads' HO_10.out).2.2 x11_3 p303 q303
   obtain rfl : ad300 = ad303 := (by injection e303)
   replace p303 := eq_true p303
   replace q303 := eq_true q303
   exact spec_ShortestCycle.e3
  rw [if_pos c48] at H
  have c48b0 : ((rd t304 x5_1) == (wrap64 ((wrap64 (x4_1 - x9_2)) - 1))) = true := beq_iff_eq.mpr c48
  have c48b1 : ((rd t304 x5_1) != (wrap64 ((wrap64 (x4_1 - x9_2)) - 1))) = false := bne_eq_false_iff_eq.mpr c48
  clear c48
  have H' := Aside0.mk H
  clear H
  obtain ⟨Ao49, co49, eo49⟩ := Kd.R_slice HO_10.out
  subst eo49
  have p300 : 0 ≤ (x11_3 : Int) := of_decide_eq_true dg_
  have q300 : x11_3 < (t297.length : Int) := of_decide_eq_true dg_
  obtain ⟨ad300, e300, hx300_0⟩ := Kd.at_int (Kd.R_reads' HO_10.out).2.2 x11_3 p300 q300
  cases e300
  replace p300 := eq_true p300
  replace q300 := eq_true q300
  have p302 : 0 ≤ (x11_3 : Int) := of_decide_eq_true dg_
  have q302 : x11_3 < (t297.length : Int) := of_decide_eq_true dg_
  obtain ⟨ad302, e302, hx302_0⟩ := Kd.at_int (Kd.R_reads' HO_10.out).2.2 x11_3 p302 q302
  obtain rfl : ad300 = ad302 := (by injection e302)
  replace p302 := eq_true p302
  replace q302 := eq_true q302
  have p303 : 0 ≤ (x11_3 : Int) := of_decide_eq_true dg_
  have q303 : x11_3 < (t297.length : Int) := of_decide_eq_true dg_
  obtain ⟨ad303, e303, hx303_0⟩ := Kd.at_int (Kd.R_reads' HO_10.out).2.2 x11_3 p303 q303
  obtain rfl : ad300 = ad303 := (by injection e303)
  replace p303 := eq_true p303
  replace q303 := eq_true q303
  exact spec_ShortestCycle.e2
 ·replace c3 := Bool.eq_false_iff.mpr c3
  subst c3
  rw [if_neg (show ¬ (false = true) by decide)] at H
  obtain rfl := Option.some.inj H
  go_enter Try.func76, Try.ntmps76
  go_wp2_with (first | ((with_reducible refine gate_dst (N := 13) rfl ?_); refine Kd.R_lit (Kd.int .i64) _ 3 ?hg (N := 13) ?hd (xs := ([] : List Int)) (inner := []) (ok := fun _ => True) (okp := fun _ => True) ?hr ?hp (fun _ hk => hk) trivial (Below.refl _ _) (Nat.le_refl _) (by simp) ?_; (case hd => rfl); (case hg => rfl); (case hr => first | (go_simp; done) | (go_simp; rfl)); (case hp => exact (Reps.none _ _)); intro v284 w72 ho73 hb hg_ hnew_; clear hg_ hnew_; (first | rw [← Ny283.out] at ho73 | (simp only [Int.reduceToNat] at ho73; rw [← Ny283.out] at ho73)); have HO285 := Aside0.mk (Kd.R_lower ho73 (bz_ HB.out)); replace HB := Aside0.mk (bs_ HB.out hb); clear hb ho73) | ((with_reducible refine gate_callee (f := 112) rfl ?_); refine gm_ (some 15) Try.func112 #[.slice A0 l0.length c0] rfl ?_; (with_reducible refine (spec_DependsOk.calls k _ _ l0 false _ ?side1 HC0.out A2.out).mono ?_); (case side1 => exact cb_ HR0.out HB.out); rintro e w74 ⟨rfl, hb⟩; refine ⟨_, rfl, ?_⟩; replace HO285 := Aside0.mk (Kd.R_below (ra_ HO285.out) hb); replace HB := Aside0.mk (bs_ HB.out hb); (try clear hb)))
  go_ret
  exact ⟨_, fin_, by (with_reducible repeat (first | apply Kd.R_alloc | apply Kd.R_drewN | apply Kd.R_drew)); exact HO285.out, bb_ HB.out⟩

/-! ### spec_CheckTable: function 24 -/
def spec_CheckTable.f (k : Nat) (a0_0 : Int) (a0_1 : Int) (l0_2 : List Int) (l1_0 : List Int) : Option (Int × List Int × List Int) := (spec_TableOk.f k a0_0 a0_1 l0_2 l1_0).bind fun t319 => (if t319 = true then ((spec_DependsOf.f k a0_0 a0_1 l0_2 l1_0).bind fun t320 => ((spec_OrderOf.f k t320).bind fun bt323 => (if bt323.2 = true then (some (1, bt323.1, ([] : List Int))) else ((spec_ShortestCycle.f k t320).bind fun t327 => (some (2, ([] : List Int), t327)))))) else (some (0, ([] : List Int), ([] : List Int))))
theorem spec_CheckTable.mono : ∀ a0 a1 a2 a3 k, LeO (spec_CheckTable.f k a0 a1 a2 a3) (spec_CheckTable.f (k + 1) a0 a1 a2 a3) := by
 intro a0 a1 a2 a3 k
 unfold spec_CheckTable.f
 repeat' first
   | (with_reducible exact spec_DependsOf.mono _ _ _ _ _)
   | (with_reducible exact spec_OrderOf.mono _ _)
   | (with_reducible exact spec_ShortestCycle.mono _ _)
   | (with_reducible exact spec_TableOk.mono _ _ _ _ _)
   | (with_reducible exact LeO.refl _)
   | (with_reducible exact LeO.none _)
   | (with_reducible refine LeO.ite ?_ ?_)
   | (with_reducible refine LeO.bind ?_ (fun _ => ?_))
   | exact spec_DependsOf.mono _ _ _ _ _
   | exact spec_OrderOf.mono _ _
   | exact spec_ShortestCycle.mono _ _
   | exact spec_TableOk.mono _ _ _ _ _
   | exact LeO.none _
   | refine LeO.ite ?_ ?_
   | refine LeO.bind ?_ (fun _ => ?_)
theorem spec_CheckTable.calls (k : Nat) (a0_0 : Int) (a0_1 : Int) (A0_2 : Option Addr) (c0_2 : Nat) (l0_2 : List Int) (A1_0 : Option Addr) (c1_0 : Nat) (l1_0 : List Int) (r1 : Int) (r2 : List Int) (r3 : List Int) (w : World) (hr0_2 : Kd.C (Kd.int .i64) w A0_2 l0_2.length l0_2) (hc0_2 : l0_2.length ≤ c0_2) (hr1_0 : Kd.C (Kd.int .i64) w A1_0 l1_0.length l1_0) (hc1_0 : l1_0.length ≤ c1_0) (h : spec_CheckTable.f k a0_0 a0_1 l0_2 l1_0 = some (r1, r2, r3)) :
  Calls Try.prog 24 #[.agg #[.int .i64 a0_0, .int .i64 a0_1, .slice A0_2 l0_2.length c0_2], .agg #[.slice A1_0 l1_0.length c1_0]] w fun e w' => ∃ v1_ v2_ : Value, e = .returned (.agg #[.int .i64 r1, v1_, v2_]) ∧ Kd.R (Kd.int .i64) 3 w' w.heap.size (fun k_ => some k_ ≠ (v2_ : Value).ownBlock) v1_ r2 ∧ Kd.R (Kd.int .i64) 3 w' w.heap.size (fun k_ => some k_ ≠ (v1_ : Value).ownBlock) v2_ r3 ∧ Below w.heap.size w w' := by
 have hu44 := Try.underlying44
 have hu46 := Try.underlying46
 have hu40 := Try.underlying40
 have HR0_2 := Aside0.mk hr0_2
 have HC0_2 := Aside0.mk hc0_2
 clear hr0_2 hc0_2
 have HR1_0 := Aside0.mk hr1_0
 have HC1_0 := Aside0.mk hc1_0
 clear hr1_0 hc1_0
 have HB := Aside0.mk (Below.refl w.heap.size w)
 have H : ((spec_TableOk.f k a0_0 a0_1 l0_2 l1_0).bind fun t319 => (if t319 = true then ((spec_DependsOf.f k a0_0 a0_1 l0_2 l1_0).bind fun t320 => ((spec_OrderOf.f k t320).bind fun bt323 => (if bt323.2 = true then (some (1, bt323.1, ([] : List Int))) else ((spec_ShortestCycle.f k t320).bind fun t327 => (some (2, ([] : List Int), t327)))))) else (some (0, ([] : List Int), ([] : List Int))))) = some (r1, r2, r3) := h
 clear h
 replace H := Option.bind_eq_some_iff.mp H
 obtain ⟨t319, A30, H⟩ := H
 try dsimp only at H
 have A3 := Aside0.mk A30
 clear A30
 by_cases c4 : t319 = true
 ·subst c4
  rw [if_pos rfl] at H
  replace H := Option.bind_eq_some_iff.mp H
  obtain ⟨t320, A50, H⟩ := H
  try dsimp only at H
  have A5 := Aside0.mk A50
  clear A50
  replace H := Option.bind_eq_some_iff.mp H
  obtain ⟨⟨t323, t324⟩, A60, H⟩ := H
  try dsimp only at H
  have A6 := Aside0.mk A60
  clear A60
  by_cases c7 : t324 = true
  ·subst c7
   rw [if_pos rfl] at H
   simp only [Option.some.injEq, Prod.mk.injEq] at H
   obtain ⟨rfl, rfl, rfl⟩ := H
   go_enter Try.func24, Try.ntmps24
   go_wp2_with (first | ((with_reducible refine gate_dst (N := 2) rfl ?_); refine box_event ?hg (N := 2) ?hd (cs := #[.int .i64 a0_0, .int .i64 a0_1, .slice A0_2 l0_2.length c0_2]) (t := 44) ?hr ?_; (case hd => rfl); (case hg => rfl); (case hr => first | (go_simp; done) | (go_simp; rfl)); intro gb316 hg w8 hbox hb; have BK316 := Aside0.mk (hbox); have GW316 := Aside0.mk ((by rw [hg]; exact (bz_ HB.out) : w.heap.size ≤ gb316)); have GE316 := Aside0.mk ((by rw [hg]; exact (bz_ HB.out) : w.heap.size ≤ gb316)); replace HB := Aside0.mk (bs_ HB.out hb); clear hb hbox hg) | ((with_reducible refine gate_dst (N := 3) rfl ?_); refine box_event ?hg (N := 3) ?hd (cs := #[.slice A1_0 l1_0.length c1_0]) (t := 46) ?hr ?_; (case hd => rfl); (case hg => rfl); (case hr => first | (go_simp; done) | (go_simp; rfl)); intro gb317 hg w9 hbox hb; have BK317 := Aside0.mk (hbox); have GW317 := Aside0.mk ((by rw [hg]; exact (bz_ HB.out) : w.heap.size ≤ gb317)); have GE317 := Aside0.mk ((by rw [hg]; exact (bz_ HB.out) : w.heap.size ≤ gb317)); replace HB := Aside0.mk (bs_ HB.out hb); have NB316_317 := Aside0.mk ((by rw [hg]; exact Nat.ne_of_lt (bl_ BK316.out) : gb316 ≠ gb317)); have NB317_316 := Aside0.mk ((by rw [hg]; exact Nat.ne_of_gt (bl_ BK316.out) : gb317 ≠ gb316)); replace BK316 := Aside0.mk (bk_ BK316.out hb); clear hb hbox hg) | ((with_reducible refine gate_dst (N := 4) rfl ?_); refine box_event ?hg (N := 4) ?hd (cs := #[.int .i64 0, .slice none 0 0, .slice none 0 0]) (t := 40) ?hr ?_; (case hd => rfl); (case hg => rfl); (case hr => first | (go_simp; done) | (go_simp; rfl)); intro gb318 hg w10 hbox hb; have BK318 := Aside0.mk (hbox); have GW318 := Aside0.mk ((by rw [hg]; exact (bz_ HB.out) : w.heap.size ≤ gb318)); have GE318 := Aside0.mk ((by rw [hg]; exact (bz_ HB.out) : w.heap.size ≤ gb318)); replace HB := Aside0.mk (bs_ HB.out hb); have NB316_318 := Aside0.mk ((by rw [hg]; exact Nat.ne_of_lt (bl_ BK316.out) : gb316 ≠ gb318)); have NB318_316 := Aside0.mk ((by rw [hg]; exact Nat.ne_of_gt (bl_ BK316.out) : gb318 ≠ gb316)); replace BK316 := Aside0.mk (bk_ BK316.out hb); have NB317_318 := Aside0.mk ((by rw [hg]; exact Nat.ne_of_lt (bl_ BK317.out) : gb317 ≠ gb318)); have NB318_317 := Aside0.mk ((by rw [hg]; exact Nat.ne_of_gt (bl_ BK317.out) : gb318 ≠ gb317)); replace BK317 := Aside0.mk (bk_ BK317.out hb); clear hb hbox hg; have hnb11 := NB316_317.out; have hnc11 := NB317_316.out; have hnb12 := NB316_318.out; have hnc12 := NB318_316.out; obtain ⟨hcz13_0, hcz13_1, hcz13_2, hfz13_0, hfz13_1, hfz13_2⟩ := cz3_ BK316.out; have hnb14 := NB317_318.out; have hnc14 := NB318_317.out; obtain ⟨hcz15_0, hfz15_0⟩ := cz1_ BK317.out) | ((with_reducible refine gate_callee (f := 73) rfl ?_); refine gm_ (some 10) Try.func73 #[.agg #[.int .i64 a0_0, .int .i64 a0_1, .slice A0_2 l0_2.length c0_2], .agg #[.slice A1_0 l1_0.length c1_0]] rfl ?_; (with_reducible refine (spec_TableOk.calls k a0_0 a0_1 _ _ l0_2 _ _ l1_0 true _ ?side1 HC0_2.out ?side3 HC1_0.out A3.out).mono ?_); (case side1 => exact cb_ HR0_2.out HB.out); (case side3 => exact cb_ HR1_0.out HB.out); rintro e w16 ⟨rfl, hb⟩; refine ⟨_, rfl, ?_⟩; replace BK316 := Aside0.mk (bk_ BK316.out hb); replace BK317 := Aside0.mk (bk_ BK317.out hb); replace BK318 := Aside0.mk (bk_ BK318.out hb); replace HB := Aside0.mk (bs_ HB.out hb); (try clear hb); obtain ⟨hcz17_0, hcz17_1, hcz17_2, hfz17_0, hfz17_1, hfz17_2⟩ := cz3_ BK316.out; obtain ⟨hcz18_0, hfz18_0⟩ := cz1_ BK317.out) | ((with_reducible refine gate_callee (f := 74) rfl ?_); refine gm_ (some 15) Try.func74 #[.agg #[.int .i64 a0_0, .int .i64 a0_1, .slice A0_2 l0_2.length c0_2], .agg #[.slice A1_0 l1_0.length c1_0]] rfl ?_; (with_reducible refine (spec_DependsOf.calls k a0_0 a0_1 _ _ l0_2 _ _ l1_0 t320 _ ?side1 HC0_2.out ?side3 HC1_0.out A5.out).mono ?_); (case side1 => exact cb_ HR0_2.out HB.out); (case side3 => exact cb_ HR1_0.out HB.out); rintro e w19 ⟨v321, rfl, ho0, hb⟩; refine ⟨_, rfl, ?_⟩; have HO322 := Aside0.mk (Kd.R_lower ho0 (bz_ HB.out)); replace BK316 := Aside0.mk (bk_ BK316.out hb); replace BK317 := Aside0.mk (bk_ BK317.out hb); replace BK318 := Aside0.mk (bk_ BK318.out hb); replace HB := Aside0.mk (bs_ HB.out hb); (try clear hb); (try clear ho0); obtain ⟨Ao20, co20, eo20⟩ := Kd.R_slice HO322.out; subst eo20) | ((with_reducible refine gate_callee (f := 75) rfl ?_); refine gm_ (some 18) Try.func75 #[.slice Ao20 t320.length co20] rfl ?_; (with_reducible refine (spec_OrderOf.calls k _ _ t320 t323 true _ ?side1 ?side2 A6.out).mono ?_); (case side1 => repeat (first | exact (Kd.R_reads' HO322.out).2.2 | (with_reducible refine Kd.C_alloc ?_ _) | (with_reducible refine Kd.C_drewN ?_ _) | (with_reducible refine Kd.C_drew ?_))); (case side2 => exact (Kd.R_reads' HO322.out).2.1); rintro e w21 ⟨v325, rfl, ho0, hb⟩; refine ⟨_, rfl, ?_⟩; replace HO322 := Aside0.mk (Kd.R_below (ra_ HO322.out) hb); have HO326 := Aside0.mk (Kd.R_lower ho0 (bz_ HB.out)); replace BK316 := Aside0.mk (bk_ BK316.out hb); replace BK317 := Aside0.mk (bk_ BK317.out hb); replace BK318 := Aside0.mk (bk_ BK318.out hb); replace HB := Aside0.mk (bs_ HB.out hb); (try clear hb); (try clear ho0); obtain ⟨Ao22, co22, eo22⟩ := Kd.R_slice HO326.out; subst eo22; obtain ⟨hcz23_0, hcz23_1, hcz23_2, hfz23_0, hfz23_1, hfz23_2⟩ := cz3_ BK318.out))
   refine bodyPost_ret (results_cell_row rfl _ _ gb318 40 #[.int .i64 1, .slice Ao22 t323.length co22, .slice none 0 0] (0, 0) _ rfl (by (with_reducible repeat (first | refine blk_drewN ?_ _ | refine blk_drew ?_ | refine blk_alloc ?_ _)); refine blk_put (cs := #[.int .i64 1, .slice Ao22 t323.length co22, .slice none 0 0]) ?_ 2 _ rfl; (with_reducible repeat (first | refine blk_drewN ?_ _ | refine blk_drew ?_ | refine blk_alloc ?_ _)); refine blk_put (cs := #[.int .i64 1, .slice none 0 0, .slice none 0 0]) ?_ 1 _ rfl; (with_reducible repeat (first | refine blk_drewN ?_ _ | refine blk_drew ?_ | refine blk_alloc ?_ _)); refine blk_put (cs := #[.int .i64 0, .slice none 0 0, .slice none 0 0]) ?_ 0 _ rfl; (with_reducible repeat (first | refine blk_drewN ?_ _ | refine blk_drew ?_ | refine blk_alloc ?_ _)); exact BK318.out) Try.underlying40 rfl (by kernel_rfl)) rfl ?_
   exact ⟨_, _, fin_, rm_ (Kd.R_types HO326.out BK318.out (by decide)) (fun _ hk => (by simp [Value.ownBlock])), by first | exact Kd.R_nil _ _ _ _ _ | exact Kd.N_nil _ _ _ _ _ | exact Kd.V_nil _ _ _ _ _ | exact Kd.Q_nil _ _ _ _ _ | exact Kd.S_nil _ _ _ _ _, bb_ HB.out⟩
  replace c7 := Bool.eq_false_iff.mpr c7
  subst c7
  rw [if_neg (show ¬ (false = true) by decide)] at H
  replace H := Option.bind_eq_some_iff.mp H
  obtain ⟨t327, A240, H⟩ := H
  try dsimp only at H
  have A24 := Aside0.mk A240
  clear A240
  simp only [Option.some.injEq, Prod.mk.injEq] at H
  obtain ⟨rfl, rfl, rfl⟩ := H
  go_enter Try.func24, Try.ntmps24
  go_wp2_with (first | ((with_reducible refine gate_dst (N := 2) rfl ?_); refine box_event ?hg (N := 2) ?hd (cs := #[.int .i64 a0_0, .int .i64 a0_1, .slice A0_2 l0_2.length c0_2]) (t := 44) ?hr ?_; (case hd => rfl); (case hg => rfl); (case hr => first | (go_simp; done) | (go_simp; rfl)); intro gb316 hg w25 hbox hb; have BK316 := Aside0.mk (hbox); have GW316 := Aside0.mk ((by rw [hg]; exact (bz_ HB.out) : w.heap.size ≤ gb316)); have GE316 := Aside0.mk ((by rw [hg]; exact (bz_ HB.out) : w.heap.size ≤ gb316)); replace HB := Aside0.mk (bs_ HB.out hb); clear hb hbox hg) | ((with_reducible refine gate_dst (N := 3) rfl ?_); refine box_event ?hg (N := 3) ?hd (cs := #[.slice A1_0 l1_0.length c1_0]) (t := 46) ?hr ?_; (case hd => rfl); (case hg => rfl); (case hr => first | (go_simp; done) | (go_simp; rfl)); intro gb317 hg w26 hbox hb; have BK317 := Aside0.mk (hbox); have GW317 := Aside0.mk ((by rw [hg]; exact (bz_ HB.out) : w.heap.size ≤ gb317)); have GE317 := Aside0.mk ((by rw [hg]; exact (bz_ HB.out) : w.heap.size ≤ gb317)); replace HB := Aside0.mk (bs_ HB.out hb); have NB316_317 := Aside0.mk ((by rw [hg]; exact Nat.ne_of_lt (bl_ BK316.out) : gb316 ≠ gb317)); have NB317_316 := Aside0.mk ((by rw [hg]; exact Nat.ne_of_gt (bl_ BK316.out) : gb317 ≠ gb316)); replace BK316 := Aside0.mk (bk_ BK316.out hb); clear hb hbox hg) | ((with_reducible refine gate_dst (N := 4) rfl ?_); refine box_event ?hg (N := 4) ?hd (cs := #[.int .i64 0, .slice none 0 0, .slice none 0 0]) (t := 40) ?hr ?_; (case hd => rfl); (case hg => rfl); (case hr => first | (go_simp; done) | (go_simp; rfl)); intro gb318 hg w27 hbox hb; have BK318 := Aside0.mk (hbox); have GW318 := Aside0.mk ((by rw [hg]; exact (bz_ HB.out) : w.heap.size ≤ gb318)); have GE318 := Aside0.mk ((by rw [hg]; exact (bz_ HB.out) : w.heap.size ≤ gb318)); replace HB := Aside0.mk (bs_ HB.out hb); have NB316_318 := Aside0.mk ((by rw [hg]; exact Nat.ne_of_lt (bl_ BK316.out) : gb316 ≠ gb318)); have NB318_316 := Aside0.mk ((by rw [hg]; exact Nat.ne_of_gt (bl_ BK316.out) : gb318 ≠ gb316)); replace BK316 := Aside0.mk (bk_ BK316.out hb); have NB317_318 := Aside0.mk ((by rw [hg]; exact Nat.ne_of_lt (bl_ BK317.out) : gb317 ≠ gb318)); have NB318_317 := Aside0.mk ((by rw [hg]; exact Nat.ne_of_gt (bl_ BK317.out) : gb318 ≠ gb317)); replace BK317 := Aside0.mk (bk_ BK317.out hb); clear hb hbox hg; have hnb28 := NB316_317.out; have hnc28 := NB317_316.out; have hnb29 := NB316_318.out; have hnc29 := NB318_316.out; obtain ⟨hcz30_0, hcz30_1, hcz30_2, hfz30_0, hfz30_1, hfz30_2⟩ := cz3_ BK316.out; have hnb31 := NB317_318.out; have hnc31 := NB318_317.out; obtain ⟨hcz32_0, hfz32_0⟩ := cz1_ BK317.out) | ((with_reducible refine gate_callee (f := 73) rfl ?_); refine gm_ (some 10) Try.func73 #[.agg #[.int .i64 a0_0, .int .i64 a0_1, .slice A0_2 l0_2.length c0_2], .agg #[.slice A1_0 l1_0.length c1_0]] rfl ?_; (with_reducible refine (spec_TableOk.calls k a0_0 a0_1 _ _ l0_2 _ _ l1_0 true _ ?side1 HC0_2.out ?side3 HC1_0.out A3.out).mono ?_); (case side1 => exact cb_ HR0_2.out HB.out); (case side3 => exact cb_ HR1_0.out HB.out); rintro e w33 ⟨rfl, hb⟩; refine ⟨_, rfl, ?_⟩; replace BK316 := Aside0.mk (bk_ BK316.out hb); replace BK317 := Aside0.mk (bk_ BK317.out hb); replace BK318 := Aside0.mk (bk_ BK318.out hb); replace HB := Aside0.mk (bs_ HB.out hb); (try clear hb); obtain ⟨hcz34_0, hcz34_1, hcz34_2, hfz34_0, hfz34_1, hfz34_2⟩ := cz3_ BK316.out; obtain ⟨hcz35_0, hfz35_0⟩ := cz1_ BK317.out) | ((with_reducible refine gate_callee (f := 74) rfl ?_); refine gm_ (some 15) Try.func74 #[.agg #[.int .i64 a0_0, .int .i64 a0_1, .slice A0_2 l0_2.length c0_2], .agg #[.slice A1_0 l1_0.length c1_0]] rfl ?_; (with_reducible refine (spec_DependsOf.calls k a0_0 a0_1 _ _ l0_2 _ _ l1_0 t320 _ ?side1 HC0_2.out ?side3 HC1_0.out A5.out).mono ?_); (case side1 => exact cb_ HR0_2.out HB.out); (case side3 => exact cb_ HR1_0.out HB.out); rintro e w36 ⟨v321, rfl, ho0, hb⟩; refine ⟨_, rfl, ?_⟩; have HO322 := Aside0.mk (Kd.R_lower ho0 (bz_ HB.out)); replace BK316 := Aside0.mk (bk_ BK316.out hb); replace BK317 := Aside0.mk (bk_ BK317.out hb); replace BK318 := Aside0.mk (bk_ BK318.out hb); replace HB := Aside0.mk (bs_ HB.out hb); (try clear hb); (try clear ho0); obtain ⟨Ao37, co37, eo37⟩ := Kd.R_slice HO322.out; subst eo37) | ((with_reducible refine gate_callee (f := 75) rfl ?_); refine gm_ (some 18) Try.func75 #[.slice Ao37 t320.length co37] rfl ?_; (with_reducible refine (spec_OrderOf.calls k _ _ t320 t323 false _ ?side1 ?side2 A6.out).mono ?_); (case side1 => repeat (first | exact (Kd.R_reads' HO322.out).2.2 | (with_reducible refine Kd.C_alloc ?_ _) | (with_reducible refine Kd.C_drewN ?_ _) | (with_reducible refine Kd.C_drew ?_))); (case side2 => exact (Kd.R_reads' HO322.out).2.1); rintro e w38 ⟨v325, rfl, ho0, hb⟩; refine ⟨_, rfl, ?_⟩; replace HO322 := Aside0.mk (Kd.R_below (ra_ HO322.out) hb); have HO326 := Aside0.mk (Kd.R_lower ho0 (bz_ HB.out)); replace BK316 := Aside0.mk (bk_ BK316.out hb); replace BK317 := Aside0.mk (bk_ BK317.out hb); replace BK318 := Aside0.mk (bk_ BK318.out hb); replace HB := Aside0.mk (bs_ HB.out hb); (try clear hb); (try clear ho0)) | ((with_reducible refine gate_callee (f := 76) rfl ?_); refine gm_ (some 25) Try.func76 #[.slice Ao37 t320.length co37] rfl ?_; (with_reducible refine (spec_ShortestCycle.calls k _ _ t320 t327 _ ?side1 ?side2 A24.out).mono ?_); (case side1 => repeat (first | exact (Kd.R_reads' HO322.out).2.2 | (with_reducible refine Kd.C_alloc ?_ _) | (with_reducible refine Kd.C_drewN ?_ _) | (with_reducible refine Kd.C_drew ?_))); (case side2 => exact (Kd.R_reads' HO322.out).2.1); rintro e w39 ⟨v328, rfl, ho0, hb⟩; refine ⟨_, rfl, ?_⟩; replace HO322 := Aside0.mk (Kd.R_below (ra_ HO322.out) hb); have HO329 := Aside0.mk (Kd.R_lower (Kd.R_new' ho0 (rl_ HO326.out)) (bz_ HB.out)); replace HO326 := Aside0.mk (Kd.R_elder' (ra_ HO326.out) (Kd.R_base ho0) hb); replace BK316 := Aside0.mk (bk_ BK316.out hb); replace BK317 := Aside0.mk (bk_ BK317.out hb); replace BK318 := Aside0.mk (bk_ BK318.out hb); replace HB := Aside0.mk (bs_ HB.out hb); (try clear hb); (try clear ho0); obtain ⟨Ao40, co40, eo40⟩ := Kd.R_slice HO329.out; subst eo40; obtain ⟨hcz41_0, hcz41_1, hcz41_2, hfz41_0, hfz41_1, hfz41_2⟩ := cz3_ BK318.out))
  refine bodyPost_ret (results_cell_row rfl _ _ gb318 40 #[.int .i64 2, .slice none 0 0, .slice Ao40 t327.length co40] (0, 0) _ rfl (by (with_reducible repeat (first | refine blk_drewN ?_ _ | refine blk_drew ?_ | refine blk_alloc ?_ _)); refine blk_put (cs := #[.int .i64 2, .slice none 0 0, .slice none 0 0]) ?_ 2 _ rfl; (with_reducible repeat (first | refine blk_drewN ?_ _ | refine blk_drew ?_ | refine blk_alloc ?_ _)); refine blk_put (cs := #[.int .i64 2, .slice none 0 0, .slice none 0 0]) ?_ 1 _ rfl; (with_reducible repeat (first | refine blk_drewN ?_ _ | refine blk_drew ?_ | refine blk_alloc ?_ _)); refine blk_put (cs := #[.int .i64 0, .slice none 0 0, .slice none 0 0]) ?_ 0 _ rfl; (with_reducible repeat (first | refine blk_drewN ?_ _ | refine blk_drew ?_ | refine blk_alloc ?_ _)); exact BK318.out) Try.underlying40 rfl (by kernel_rfl)) rfl ?_
  exact ⟨_, _, fin_, by first | exact Kd.R_nil _ _ _ _ _ | exact Kd.N_nil _ _ _ _ _ | exact Kd.V_nil _ _ _ _ _ | exact Kd.Q_nil _ _ _ _ _ | exact Kd.S_nil _ _ _ _ _, rm_ (Kd.R_types HO329.out BK318.out (by decide)) (fun _ hk => (by simp [Value.ownBlock])), bb_ HB.out⟩
 ·replace c4 := Bool.eq_false_iff.mpr c4
  subst c4
  rw [if_neg (show ¬ (false = true) by decide)] at H
  simp only [Option.some.injEq, Prod.mk.injEq] at H
  obtain ⟨rfl, rfl, rfl⟩ := H
  go_enter Try.func24, Try.ntmps24
  go_wp2_with (first | ((with_reducible refine gate_dst (N := 2) rfl ?_); refine box_event ?hg (N := 2) ?hd (cs := #[.int .i64 a0_0, .int .i64 a0_1, .slice A0_2 l0_2.length c0_2]) (t := 44) ?hr ?_; (case hd => rfl); (case hg => rfl); (case hr => first | (go_simp; done) | (go_simp; rfl)); intro gb316 hg w42 hbox hb; have BK316 := Aside0.mk (hbox); have GW316 := Aside0.mk ((by rw [hg]; exact (bz_ HB.out) : w.heap.size ≤ gb316)); have GE316 := Aside0.mk ((by rw [hg]; exact (bz_ HB.out) : w.heap.size ≤ gb316)); replace HB := Aside0.mk (bs_ HB.out hb); clear hb hbox hg) | ((with_reducible refine gate_dst (N := 3) rfl ?_); refine box_event ?hg (N := 3) ?hd (cs := #[.slice A1_0 l1_0.length c1_0]) (t := 46) ?hr ?_; (case hd => rfl); (case hg => rfl); (case hr => first | (go_simp; done) | (go_simp; rfl)); intro gb317 hg w43 hbox hb; have BK317 := Aside0.mk (hbox); have GW317 := Aside0.mk ((by rw [hg]; exact (bz_ HB.out) : w.heap.size ≤ gb317)); have GE317 := Aside0.mk ((by rw [hg]; exact (bz_ HB.out) : w.heap.size ≤ gb317)); replace HB := Aside0.mk (bs_ HB.out hb); have NB316_317 := Aside0.mk ((by rw [hg]; exact Nat.ne_of_lt (bl_ BK316.out) : gb316 ≠ gb317)); have NB317_316 := Aside0.mk ((by rw [hg]; exact Nat.ne_of_gt (bl_ BK316.out) : gb317 ≠ gb316)); replace BK316 := Aside0.mk (bk_ BK316.out hb); clear hb hbox hg) | ((with_reducible refine gate_dst (N := 4) rfl ?_); refine box_event ?hg (N := 4) ?hd (cs := #[.int .i64 0, .slice none 0 0, .slice none 0 0]) (t := 40) ?hr ?_; (case hd => rfl); (case hg => rfl); (case hr => first | (go_simp; done) | (go_simp; rfl)); intro gb318 hg w44 hbox hb; have BK318 := Aside0.mk (hbox); have GW318 := Aside0.mk ((by rw [hg]; exact (bz_ HB.out) : w.heap.size ≤ gb318)); have GE318 := Aside0.mk ((by rw [hg]; exact (bz_ HB.out) : w.heap.size ≤ gb318)); replace HB := Aside0.mk (bs_ HB.out hb); have NB316_318 := Aside0.mk ((by rw [hg]; exact Nat.ne_of_lt (bl_ BK316.out) : gb316 ≠ gb318)); have NB318_316 := Aside0.mk ((by rw [hg]; exact Nat.ne_of_gt (bl_ BK316.out) : gb318 ≠ gb316)); replace BK316 := Aside0.mk (bk_ BK316.out hb); have NB317_318 := Aside0.mk ((by rw [hg]; exact Nat.ne_of_lt (bl_ BK317.out) : gb317 ≠ gb318)); have NB318_317 := Aside0.mk ((by rw [hg]; exact Nat.ne_of_gt (bl_ BK317.out) : gb318 ≠ gb317)); replace BK317 := Aside0.mk (bk_ BK317.out hb); clear hb hbox hg; have hnb45 := NB316_317.out; have hnc45 := NB317_316.out; have hnb46 := NB316_318.out; have hnc46 := NB318_316.out; obtain ⟨hcz47_0, hcz47_1, hcz47_2, hfz47_0, hfz47_1, hfz47_2⟩ := cz3_ BK316.out; have hnb48 := NB317_318.out; have hnc48 := NB318_317.out; obtain ⟨hcz49_0, hfz49_0⟩ := cz1_ BK317.out) | ((with_reducible refine gate_callee (f := 73) rfl ?_); refine gm_ (some 10) Try.func73 #[.agg #[.int .i64 a0_0, .int .i64 a0_1, .slice A0_2 l0_2.length c0_2], .agg #[.slice A1_0 l1_0.length c1_0]] rfl ?_; (with_reducible refine (spec_TableOk.calls k a0_0 a0_1 _ _ l0_2 _ _ l1_0 false _ ?side1 HC0_2.out ?side3 HC1_0.out A3.out).mono ?_); (case side1 => exact cb_ HR0_2.out HB.out); (case side3 => exact cb_ HR1_0.out HB.out); rintro e w50 ⟨rfl, hb⟩; refine ⟨_, rfl, ?_⟩; replace BK316 := Aside0.mk (bk_ BK316.out hb); replace BK317 := Aside0.mk (bk_ BK317.out hb); replace BK318 := Aside0.mk (bk_ BK318.out hb); replace HB := Aside0.mk (bs_ HB.out hb); (try clear hb); obtain ⟨hcz51_0, hcz51_1, hcz51_2, hfz51_0, hfz51_1, hfz51_2⟩ := cz3_ BK318.out))
  refine bodyPost_ret (results_cell_row rfl _ _ gb318 40 #[.int .i64 0, .slice none 0 0, .slice none 0 0] (0, 0) _ rfl (by (with_reducible repeat (first | refine blk_drewN ?_ _ | refine blk_drew ?_ | refine blk_alloc ?_ _)); refine blk_put (cs := #[.int .i64 0, .slice none 0 0, .slice none 0 0]) ?_ 2 _ rfl; (with_reducible repeat (first | refine blk_drewN ?_ _ | refine blk_drew ?_ | refine blk_alloc ?_ _)); refine blk_put (cs := #[.int .i64 0, .slice none 0 0, .slice none 0 0]) ?_ 1 _ rfl; (with_reducible repeat (first | refine blk_drewN ?_ _ | refine blk_drew ?_ | refine blk_alloc ?_ _)); refine blk_put (cs := #[.int .i64 0, .slice none 0 0, .slice none 0 0]) ?_ 0 _ rfl; (with_reducible repeat (first | refine blk_drewN ?_ _ | refine blk_drew ?_ | refine blk_alloc ?_ _)); exact BK318.out) Try.underlying40 rfl (by kernel_rfl)) rfl ?_
  exact ⟨_, _, fin_, by first | exact Kd.R_nil _ _ _ _ _ | exact Kd.N_nil _ _ _ _ _ | exact Kd.V_nil _ _ _ _ _ | exact Kd.Q_nil _ _ _ _ _ | exact Kd.S_nil _ _ _ _ _, by first | exact Kd.R_nil _ _ _ _ _ | exact Kd.N_nil _ _ _ _ _ | exact Kd.V_nil _ _ _ _ _ | exact Kd.Q_nil _ _ _ _ _ | exact Kd.S_nil _ _ _ _ _, bb_ HB.out⟩

/-! ### spec_l05Column: function 148 -/
def spec_l05Column.f (a0 : Int) (a1 : Int) : Option (Int) := if a1 < a0 then (some 3) else (some 1)
theorem spec_l05Column.e0 {P : Prop} (h : P := by
 go_enter Try.func148, Try.ntmps148
 go_wp2
 go_ret
 exact ⟨by first | rfl | (simp; done) | (simp [*]; done), by repeat (first | exact Drawn0.refl _ | apply Drawn0.step)⟩) : P := h
theorem spec_l05Column.calls (a0 : Int) (a1 : Int) (r : Int) (w : World) (h : spec_l05Column.f a0 a1 = some r) :
  Calls Try.prog 148 #[.int .i64 a0, .int .i64 a1] w fun e w' => e = .returned (.int .i64 r) ∧ Drawn0 w w' := by
 have H : (if a1 < a0 then (some 3) else (some 1)) = some r := h
 clear h
 by_cases c3 : a1 < a0
 ·rw [if_pos c3] at H
  have c3b0 : decide (a1 < a0) = true := decide_eq_true c3
  clear c3
  obtain rfl := Option.some.inj H
  exact spec_l05Column.e0
 ·rw [if_neg c3] at H
  have c3b0 : decide (a1 < a0) = false := decide_eq_false c3
  clear c3
  obtain rfl := Option.some.inj H
  exact spec_l05Column.e0

/-! ### spec_l05Row: function 149 -/
def spec_l05Row.f (a0 : Int) (a1 : Int) : Option (Int) := if a1 < a0 then (some 0) else (some 2)
theorem spec_l05Row.e0 {P : Prop} (h : P := by
 go_enter Try.func149, Try.ntmps149
 go_wp2
 go_ret
 exact ⟨by first | rfl | (simp; done) | (simp [*]; done), by repeat (first | exact Drawn0.refl _ | apply Drawn0.step)⟩) : P := h
theorem spec_l05Row.calls (a0 : Int) (a1 : Int) (r : Int) (w : World) (h : spec_l05Row.f a0 a1 = some r) :
  Calls Try.prog 149 #[.int .i64 a0, .int .i64 a1] w fun e w' => e = .returned (.int .i64 r) ∧ Drawn0 w w' := by
 have H : (if a1 < a0 then (some 0) else (some 2)) = some r := h
 clear h
 by_cases c3 : a1 < a0
 ·rw [if_pos c3] at H
  have c3b0 : decide (a1 < a0) = true := decide_eq_true c3
  clear c3
  obtain rfl := Option.some.inj H
  exact spec_l05Row.e0
 ·rw [if_neg c3] at H
  have c3b0 : decide (a1 < a0) = false := decide_eq_false c3
  clear c3
  obtain rfl := Option.some.inj H
  exact spec_l05Row.e0

end Go.Proofs.Ytimdefbpoddoaaa.PFnExactSafeRules
-- thin
