/- Each function that the law comes to, as a plain function, with the proof that the call in the model gives what that function says (written by a program of this session out of the translation). No condition. -/
import Derived.Test.YtimdefbpoddoaaaPFnExactRingIsSafex0
import Derived.Test.YtimdefbpoddoaaaPFnExactRingIsSafex2
import Derived.Test.YtimdefbpoddoaaaPFnExactRingIsSafex4
import Derived.Test.YtimdefbpoddoaaaPFnExactRingIsSafex5
import Derived.Test.YtimdefbpoddoaaaPFnExactRingIsSafex6
namespace Go.Proofs.Ytimdefbpoddoaaa.PFnExactRingIsSafe
open Go.RowKit Go.Proofs.YtimdefbpoddoaaaW.PrintWords Go.Proofs.YtimdefbpoddoaaaW.PrintLast Go.Proofs.YtimdefbpoddoaaaW.PrintMore
attribute [local go_sem] max2_int min2_int max_two min_two max_three min_three max_four min_four   -- for this text's walks alone
set_option linter.unusedVariables false
set_option linter.unusedSimpArgs false

/-! ### spec_ShortestCycle: function 76 -/
mutual
def spec_ShortestCycle.l0 : Nat → List (S94) → List Int → Int → Int → Int → Option (List Int)
 | 0, _, _, _, _, _ => none
 | k + 1, x0, x3, x4, x5, x6 => if x6 < 128 then ((spec_SuccessorsOf.f k x0 x6).bind fun t211 => (if (t211.length : Int) = 0 then (spec_ShortestCycle.l0 k x0 x3 x4 x5 (wrap64 (x6 + 1))) else ((spec_l10Depths.f k x0 x6).bind fun t214 => (if 0 ≤ x6 then (if x6 < (t214.length : Int) then (if (rd t214 x6) > 0 then (if x4 = 0 then (spec_ShortestCycle.l0 k x0 x3 (rd t214 x6) x6 (wrap64 (x6 + 1))) else (if (rd t214 x6) < x4 then (spec_ShortestCycle.l0 k x0 x3 (rd t214 x6) x6 (wrap64 (x6 + 1))) else (spec_ShortestCycle.l0 k x0 x3 x4 x5 (wrap64 (x6 + 1))))) else (spec_ShortestCycle.l0 k x0 x3 x4 x5 (wrap64 (x6 + 1)))) else (none)) else (none))))) else (spec_ShortestCycle.l1 k x0 x3 x4 x5 x5 0)
def spec_ShortestCycle.l1 : Nat → List (S94) → List Int → Int → Int → Int → Int → Option (List Int)
 | 0, _, _, _, _, _, _ => none
 | k + 1, x0, x3, x4, x5, x8, x9 => if x9 < x4 then (if x3.length < 17592186044416 then ((spec_SuccessorsOf.f k x0 x8).bind fun t221 => (spec_ShortestCycle.l2 k x0 (x3 ++ [x8]) x4 x5 x8 x9 t221 0)) else (none)) else (some x3)
def spec_ShortestCycle.l2 : Nat → List (S94) → List Int → Int → Int → Int → Int → List Int → Int → Option (List Int)
 | 0, _, _, _, _, _, _, _, _ => none
 | k + 1, x0, x3, x4, x5, x8, x9, x10, x11 => if x11 < (x10.length : Int) then (if (wrap64 ((wrap64 (x4 - x9)) - 1)) = 0 then (if 0 ≤ x11 then (if (rd x10 x11) = x5 then (spec_ShortestCycle.l1 k x0 x3 x4 x5 (rd x10 x11) (wrap64 (x9 + 1))) else (if (wrap64 ((wrap64 (x4 - x9)) - 1)) > 0 then ((spec_l10Depths.f k x0 (rd x10 x11)).bind fun t228 => (if 0 ≤ x5 then (if x5 < (t228.length : Int) then (if (rd t228 x5) = (wrap64 ((wrap64 (x4 - x9)) - 1)) then (spec_ShortestCycle.l1 k x0 x3 x4 x5 (rd x10 x11) (wrap64 (x9 + 1))) else (spec_ShortestCycle.l2 k x0 x3 x4 x5 x8 x9 x10 (wrap64 (x11 + 1)))) else (none)) else (none))) else (spec_ShortestCycle.l2 k x0 x3 x4 x5 x8 x9 x10 (wrap64 (x11 + 1))))) else (none)) else (if (wrap64 ((wrap64 (x4 - x9)) - 1)) > 0 then (if 0 ≤ x11 then (if (rd x10 x11) = x5 then (spec_ShortestCycle.l2 k x0 x3 x4 x5 x8 x9 x10 (wrap64 (x11 + 1))) else ((spec_l10Depths.f k x0 (rd x10 x11)).bind fun t235 => (if 0 ≤ x5 then (if x5 < (t235.length : Int) then (if (rd t235 x5) = (wrap64 ((wrap64 (x4 - x9)) - 1)) then (spec_ShortestCycle.l1 k x0 x3 x4 x5 (rd x10 x11) (wrap64 (x9 + 1))) else (spec_ShortestCycle.l2 k x0 x3 x4 x5 x8 x9 x10 (wrap64 (x11 + 1)))) else (none)) else (none)))) else (none)) else (spec_ShortestCycle.l2 k x0 x3 x4 x5 x8 x9 x10 (wrap64 (x11 + 1))))) else (spec_ShortestCycle.l1 k x0 x3 x4 x5 x8 (wrap64 (x9 + 1)))
end
def spec_ShortestCycle.f (k : Nat) (l0 : List (S94)) : Option (List Int) := (some (([] : List Int) : List Int)).bind fun y207 => ((spec_DependsOk.f k l0).bind fun t210 => (if t210 = true then (spec_ShortestCycle.l0 k l0 y207 0 (-1) 0) else (some y207)))
theorem spec_ShortestCycle.mono_l : ∀ k, (∀ y0 y1 y2 y3 y4, LeO (spec_ShortestCycle.l0 k y0 y1 y2 y3 y4) (spec_ShortestCycle.l0 (k + 1) y0 y1 y2 y3 y4)) ∧ (∀ y0 y1 y2 y3 y4 y5, LeO (spec_ShortestCycle.l1 k y0 y1 y2 y3 y4 y5) (spec_ShortestCycle.l1 (k + 1) y0 y1 y2 y3 y4 y5)) ∧ (∀ y0 y1 y2 y3 y4 y5 y6 y7, LeO (spec_ShortestCycle.l2 k y0 y1 y2 y3 y4 y5 y6 y7) (spec_ShortestCycle.l2 (k + 1) y0 y1 y2 y3 y4 y5 y6 y7))
 | 0 => ⟨fun _ _ _ _ _ r h => by simp [spec_ShortestCycle.l0] at h, fun _ _ _ _ _ _ r h => by simp [spec_ShortestCycle.l1] at h, fun _ _ _ _ _ _ _ _ r h => by simp [spec_ShortestCycle.l2] at h⟩
 | k + 1 => by
  obtain ⟨ih0, ih1, ih2⟩ := spec_ShortestCycle.mono_l k
  refine ⟨?_, ?_, ?_⟩
  ·intro y0 y1 y2 y3 y4
   unfold spec_ShortestCycle.l0
   repeat' first
   | (with_reducible exact ih0 _ _ _ _ _)
   | (with_reducible exact ih1 _ _ _ _ _ _)
   | (with_reducible exact ih2 _ _ _ _ _ _ _ _)
   | (with_reducible exact spec_DependsOk.mono _ _)
   | (with_reducible exact spec_SuccessorsOf.mono _ _ _)
   | (with_reducible exact spec_l10Depths.mono _ _ _)
   | (with_reducible exact LeO.refl _)
   | (with_reducible exact LeO.none _)
   | (with_reducible refine LeO.ite ?_ ?_)
   | (with_reducible refine LeO.bind ?_ (fun _ => ?_))
   | exact ih0 _ _ _ _ _
   | exact ih1 _ _ _ _ _ _
   | exact ih2 _ _ _ _ _ _ _ _
   | exact spec_DependsOk.mono _ _
   | exact spec_SuccessorsOf.mono _ _ _
   | exact spec_l10Depths.mono _ _ _
   | exact LeO.none _
   | refine LeO.ite ?_ ?_
   | refine LeO.bind ?_ (fun _ => ?_)
  ·intro y0 y1 y2 y3 y4 y5
   unfold spec_ShortestCycle.l1
   repeat' first
   | (with_reducible exact ih0 _ _ _ _ _)
   | (with_reducible exact ih1 _ _ _ _ _ _)
   | (with_reducible exact ih2 _ _ _ _ _ _ _ _)
   | (with_reducible exact spec_DependsOk.mono _ _)
   | (with_reducible exact spec_SuccessorsOf.mono _ _ _)
   | (with_reducible exact spec_l10Depths.mono _ _ _)
   | (with_reducible exact LeO.refl _)
   | (with_reducible exact LeO.none _)
   | (with_reducible refine LeO.ite ?_ ?_)
   | (with_reducible refine LeO.bind ?_ (fun _ => ?_))
   | exact ih0 _ _ _ _ _
   | exact ih1 _ _ _ _ _ _
   | exact ih2 _ _ _ _ _ _ _ _
   | exact spec_DependsOk.mono _ _
   | exact spec_SuccessorsOf.mono _ _ _
   | exact spec_l10Depths.mono _ _ _
   | exact LeO.none _
   | refine LeO.ite ?_ ?_
   | refine LeO.bind ?_ (fun _ => ?_)
  ·intro y0 y1 y2 y3 y4 y5 y6 y7
   unfold spec_ShortestCycle.l2
   repeat' first
   | (with_reducible exact ih0 _ _ _ _ _)
   | (with_reducible exact ih1 _ _ _ _ _ _)
   | (with_reducible exact ih2 _ _ _ _ _ _ _ _)
   | (with_reducible exact spec_DependsOk.mono _ _)
   | (with_reducible exact spec_SuccessorsOf.mono _ _ _)
   | (with_reducible exact spec_l10Depths.mono _ _ _)
   | (with_reducible exact LeO.refl _)
   | (with_reducible exact LeO.none _)
   | (with_reducible refine LeO.ite ?_ ?_)
   | (with_reducible refine LeO.bind ?_ (fun _ => ?_))
   | exact ih0 _ _ _ _ _
   | exact ih1 _ _ _ _ _ _
   | exact ih2 _ _ _ _ _ _ _ _
   | exact spec_DependsOk.mono _ _
   | exact spec_SuccessorsOf.mono _ _ _
   | exact spec_l10Depths.mono _ _ _
   | exact LeO.none _
   | refine LeO.ite ?_ ?_
   | refine LeO.bind ?_ (fun _ => ?_)
theorem spec_ShortestCycle.mono : ∀ a0 k, LeO (spec_ShortestCycle.f k a0) (spec_ShortestCycle.f (k + 1) a0) := by
 intro a0 k
 obtain ⟨ih0, ih1, ih2⟩ := spec_ShortestCycle.mono_l k
 unfold spec_ShortestCycle.f
 repeat' first
   | (with_reducible exact ih0 _ _ _ _ _)
   | (with_reducible exact ih1 _ _ _ _ _ _)
   | (with_reducible exact ih2 _ _ _ _ _ _ _ _)
   | (with_reducible exact spec_DependsOk.mono _ _)
   | (with_reducible exact spec_SuccessorsOf.mono _ _ _)
   | (with_reducible exact spec_l10Depths.mono _ _ _)
   | (with_reducible exact LeO.refl _)
   | (with_reducible exact LeO.none _)
   | (with_reducible refine LeO.ite ?_ ?_)
   | (with_reducible refine LeO.bind ?_ (fun _ => ?_))
   | exact ih0 _ _ _ _ _
   | exact ih1 _ _ _ _ _ _
   | exact ih2 _ _ _ _ _ _ _ _
   | exact spec_DependsOk.mono _ _
   | exact spec_SuccessorsOf.mono _ _ _
   | exact spec_l10Depths.mono _ _ _
   | exact LeO.none _
   | refine LeO.ite ?_ ?_
   | refine LeO.bind ?_ (fun _ => ?_)
theorem spec_ShortestCycle.e0 {P : Prop} (h : P := by
 go_wp2_with (first | ((with_reducible refine gate_callee (f := 114) rfl ?_); refine gm_ (some 24) Try.func114 #[.slice A0 l0.length c0, .int .i64 x6_1] rfl ?_; (with_reducible refine (spec_SuccessorsOf.calls k1 _ _ l0 x6_1 t211 _ ?side1 HC0.out A8.out).mono ?_); (case side1 => exact cb_ HR0.out HB.out); rintro e w_0 ⟨v212, rfl, ho0, hb⟩; refine ⟨_, rfl, ?_⟩; have HO213 := Aside0.mk (Kd.R_lower (Kd.R_new' ho0 (rl_ HO_3.out)) (bz_ HB.out)); replace HO_3 := Aside0.mk (Kd.R_elder' (ra_ HO_3.out) (Kd.R_base ho0) hb); replace HB := Aside0.mk (bs_ HB.out hb); (try clear hb); (try clear ho0); obtain ⟨Ao11, co11, eo11⟩ := Kd.R_slice HO213.out; subst eo11) | ((with_reducible refine gate_callee (f := 114) rfl ?_); refine gm_ (some 24) Try.func114 #[.slice A0 l0.length c0, .int .i64 x6_1] rfl ?_; (with_reducible refine (spec_SuccessorsOf.calls k1 _ _ l0 x6_1 t211 _ ?side1 HC0.out A8.out).mono ?_); (case side1 => exact cb_ HR0.out HB.out); rintro e w_0 ⟨v212, rfl, ho0, hb⟩; refine ⟨_, rfl, ?_⟩; have HO213 := Aside0.mk (Kd.R_lower (Kd.R_new' ho0 (rl_ HO_3.out)) (bz_ HB.out)); replace HO_3 := Aside0.mk (Kd.R_elder' (ra_ HO_3.out) (Kd.R_base ho0) hb); replace HB := Aside0.mk (bs_ HB.out hb); (try clear hb); (try clear ho0); obtain ⟨Ao27, co27, eo27⟩ := Kd.R_slice HO213.out; subst eo27) | ((with_reducible refine gate_callee (f := 115) rfl ?_); refine gm_ (some 29) Try.func115 #[.slice A0 l0.length c0, .int .i64 x6_1] rfl ?_; (with_reducible refine (spec_l10Depths.calls k1 _ _ l0 x6_1 t214 _ ?side1 HC0.out A12.out).mono ?_); (case side1 => exact cb_ HR0.out HB.out); rintro e w_0 ⟨v215, rfl, ho0, hb⟩; refine ⟨_, rfl, ?_⟩; have HO216 := Aside0.mk (Kd.R_lower (Kd.R_new' (Kd.R_new' ho0 (rl_ HO_3.out)) (rl_ HO213.out)) (bz_ HB.out)); replace HO_3 := Aside0.mk (Kd.R_elder' (ra_ HO_3.out) (Kd.R_base ho0) hb); replace HO213 := Aside0.mk (Kd.R_elder' (ra_ HO213.out) (Kd.R_base ho0) hb); replace HB := Aside0.mk (bs_ HB.out hb); (try clear hb); (try clear ho0); obtain ⟨Ao29, co29, eo29⟩ := Kd.R_slice HO216.out; subst eo29; have p217 : 0 ≤ (x6_1 : Int) := of_decide_eq_true dg_; have q217 : x6_1 < (t214.length : Int) := of_decide_eq_true dg_; obtain ⟨ad217, e217, hx217_0⟩ := Kd.at_int (Kd.R_reads' HO216.out).2.2 x6_1 p217 q217; cases e217; replace p217 := eq_true p217; replace q217 := eq_true q217) | ((with_reducible refine gate_callee (f := 114) rfl ?_); refine gm_ (some 24) Try.func114 #[.slice A0 l0.length c0, .int .i64 x6_1] rfl ?_; (with_reducible refine (spec_SuccessorsOf.calls k1 _ _ l0 x6_1 t211 _ ?side1 HC0.out A8.out).mono ?_); (case side1 => exact cb_ HR0.out HB.out); rintro e w_0 ⟨v212, rfl, ho0, hb⟩; refine ⟨_, rfl, ?_⟩; have HO213 := Aside0.mk (Kd.R_lower (Kd.R_new' ho0 (rl_ HO_3.out)) (bz_ HB.out)); replace HO_3 := Aside0.mk (Kd.R_elder' (ra_ HO_3.out) (Kd.R_base ho0) hb); replace HB := Aside0.mk (bs_ HB.out hb); (try clear hb); (try clear ho0); obtain ⟨Ao31, co31, eo31⟩ := Kd.R_slice HO213.out; subst eo31) | ((with_reducible refine gate_callee (f := 115) rfl ?_); refine gm_ (some 29) Try.func115 #[.slice A0 l0.length c0, .int .i64 x6_1] rfl ?_; (with_reducible refine (spec_l10Depths.calls k1 _ _ l0 x6_1 t214 _ ?side1 HC0.out A12.out).mono ?_); (case side1 => exact cb_ HR0.out HB.out); rintro e w_0 ⟨v215, rfl, ho0, hb⟩; refine ⟨_, rfl, ?_⟩; have HO216 := Aside0.mk (Kd.R_lower (Kd.R_new' (Kd.R_new' ho0 (rl_ HO_3.out)) (rl_ HO213.out)) (bz_ HB.out)); replace HO_3 := Aside0.mk (Kd.R_elder' (ra_ HO_3.out) (Kd.R_base ho0) hb); replace HO213 := Aside0.mk (Kd.R_elder' (ra_ HO213.out) (Kd.R_base ho0) hb); replace HB := Aside0.mk (bs_ HB.out hb); (try clear hb); (try clear ho0); obtain ⟨Ao33, co33, eo33⟩ := Kd.R_slice HO216.out; subst eo33; have p217 : 0 ≤ (x6_1 : Int) := of_decide_eq_true dg_; have q217 : x6_1 < (t214.length : Int) := of_decide_eq_true dg_; obtain ⟨ad217, e217, hx217_0⟩ := Kd.at_int (Kd.R_reads' HO216.out).2.2 x6_1 p217 q217; cases e217; replace p217 := eq_true p217; replace q217 := eq_true q217))
 go_roundg k1
 case measure => have := HK1.out; omega
 case rel => exact ⟨(x4_1), (x5_1), (wrap64 (x6_1 + 1)), ef_, ef_, ef_, H', ⟨by have := HK1.out; omega⟩, ⟨by (with_reducible repeat (first | apply Kd.R_alloc | apply Kd.R_drewN | apply Kd.R_drew)); exact Kd.R_mono HO_3.out (fun _ hk => trivial)⟩, ⟨bb_ HB.out⟩⟩) : P := h
theorem spec_ShortestCycle.e1 {P : Prop} (h : P := by
 go_wp2_with (first | ((with_reducible refine gate_callee (f := 114) rfl ?_); refine gm_ (some 24) Try.func114 #[.slice A0 l0.length c0, .int .i64 x6_1] rfl ?_; (with_reducible refine (spec_SuccessorsOf.calls k1 _ _ l0 x6_1 t211 _ ?side1 HC0.out A8.out).mono ?_); (case side1 => exact cb_ HR0.out HB.out); rintro e w_0 ⟨v212, rfl, ho0, hb⟩; refine ⟨_, rfl, ?_⟩; have HO213 := Aside0.mk (Kd.R_lower (Kd.R_new' ho0 (rl_ HO_3.out)) (bz_ HB.out)); replace HO_3 := Aside0.mk (Kd.R_elder' (ra_ HO_3.out) (Kd.R_base ho0) hb); replace HB := Aside0.mk (bs_ HB.out hb); (try clear hb); (try clear ho0); obtain ⟨Ao18, co18, eo18⟩ := Kd.R_slice HO213.out; subst eo18) | ((with_reducible refine gate_callee (f := 115) rfl ?_); refine gm_ (some 29) Try.func115 #[.slice A0 l0.length c0, .int .i64 x6_1] rfl ?_; (with_reducible refine (spec_l10Depths.calls k1 _ _ l0 x6_1 t214 _ ?side1 HC0.out A12.out).mono ?_); (case side1 => exact cb_ HR0.out HB.out); rintro e w_0 ⟨v215, rfl, ho0, hb⟩; refine ⟨_, rfl, ?_⟩; have HO216 := Aside0.mk (Kd.R_lower (Kd.R_new' (Kd.R_new' ho0 (rl_ HO_3.out)) (rl_ HO213.out)) (bz_ HB.out)); replace HO_3 := Aside0.mk (Kd.R_elder' (ra_ HO_3.out) (Kd.R_base ho0) hb); replace HO213 := Aside0.mk (Kd.R_elder' (ra_ HO213.out) (Kd.R_base ho0) hb); replace HB := Aside0.mk (bs_ HB.out hb); (try clear hb); (try clear ho0); obtain ⟨Ao20, co20, eo20⟩ := Kd.R_slice HO216.out; subst eo20; have p217 : 0 ≤ (x6_1 : Int) := of_decide_eq_true dg_; have q217 : x6_1 < (t214.length : Int) := of_decide_eq_true dg_; obtain ⟨ad217, e217, hx217_0⟩ := Kd.at_int (Kd.R_reads' HO216.out).2.2 x6_1 p217 q217; cases e217; replace p217 := eq_true p217; replace q217 := eq_true q217) | ((with_reducible refine gate_callee (f := 114) rfl ?_); refine gm_ (some 24) Try.func114 #[.slice A0 l0.length c0, .int .i64 x6_1] rfl ?_; (with_reducible refine (spec_SuccessorsOf.calls k1 _ _ l0 x6_1 t211 _ ?side1 HC0.out A8.out).mono ?_); (case side1 => exact cb_ HR0.out HB.out); rintro e w_0 ⟨v212, rfl, ho0, hb⟩; refine ⟨_, rfl, ?_⟩; have HO213 := Aside0.mk (Kd.R_lower (Kd.R_new' ho0 (rl_ HO_3.out)) (bz_ HB.out)); replace HO_3 := Aside0.mk (Kd.R_elder' (ra_ HO_3.out) (Kd.R_base ho0) hb); replace HB := Aside0.mk (bs_ HB.out hb); (try clear hb); (try clear ho0); obtain ⟨Ao23, co23, eo23⟩ := Kd.R_slice HO213.out; subst eo23) | ((with_reducible refine gate_callee (f := 115) rfl ?_); refine gm_ (some 29) Try.func115 #[.slice A0 l0.length c0, .int .i64 x6_1] rfl ?_; (with_reducible refine (spec_l10Depths.calls k1 _ _ l0 x6_1 t214 _ ?side1 HC0.out A12.out).mono ?_); (case side1 => exact cb_ HR0.out HB.out); rintro e w_0 ⟨v215, rfl, ho0, hb⟩; refine ⟨_, rfl, ?_⟩; have HO216 := Aside0.mk (Kd.R_lower (Kd.R_new' (Kd.R_new' ho0 (rl_ HO_3.out)) (rl_ HO213.out)) (bz_ HB.out)); replace HO_3 := Aside0.mk (Kd.R_elder' (ra_ HO_3.out) (Kd.R_base ho0) hb); replace HO213 := Aside0.mk (Kd.R_elder' (ra_ HO213.out) (Kd.R_base ho0) hb); replace HB := Aside0.mk (bs_ HB.out hb); (try clear hb); (try clear ho0); obtain ⟨Ao25, co25, eo25⟩ := Kd.R_slice HO216.out; subst eo25; have p217 : 0 ≤ (x6_1 : Int) := of_decide_eq_true dg_; have q217 : x6_1 < (t214.length : Int) := of_decide_eq_true dg_; obtain ⟨ad217, e217, hx217_0⟩ := Kd.at_int (Kd.R_reads' HO216.out).2.2 x6_1 p217 q217; cases e217; replace p217 := eq_true p217; replace q217 := eq_true q217))
 go_roundg k1
 case measure => have := HK1.out; omega
 case rel => exact ⟨(rd t214 x6_1), (x6_1), (wrap64 (x6_1 + 1)), ef_, ef_, ef_, H', ⟨by have := HK1.out; omega⟩, ⟨by (with_reducible repeat (first | apply Kd.R_alloc | apply Kd.R_drewN | apply Kd.R_drew)); exact Kd.R_mono HO_3.out (fun _ hk => trivial)⟩, ⟨bb_ HB.out⟩⟩) : P := h
theorem spec_ShortestCycle.e2 {P : Prop} (h : P := by
 go_wp2_with (first | (go_at_call 115; (with_reducible refine (spec_l10Depths.calls k3 _ _ l0 (rd t221 x11_3) t228 _ ?side1 HC0.out A45.out).mono ?_); (case side1 => exact cb_ HR0.out HB.out); rintro e w_0 ⟨v229, rfl, ho0, hb⟩; have HO230 := Aside0.mk (Kd.R_lower (Kd.R_new' (Kd.R_new' ho0 (rl_ HO_3.out)) (rl_ HO_10.out)) (bz_ HB.out)); replace HO_3 := Aside0.mk (Kd.R_elder' (ra_ HO_3.out) (Kd.R_base ho0) hb); replace HO_10 := Aside0.mk (Kd.R_elder' (ra_ HO_10.out) (Kd.R_base ho0) hb); replace HB := Aside0.mk (bs_ HB.out hb); (try clear hb); (try clear ho0); obtain ⟨Ao51, co51, eo51⟩ := Kd.R_slice HO230.out; subst eo51; have p231 : 0 ≤ (x5_1 : Int) := of_decide_eq_true dg_; have q231 : x5_1 < (t228.length : Int) := of_decide_eq_true dg_; obtain ⟨ad231, e231, hx231_0⟩ := Kd.at_int (Kd.R_reads' HO230.out).2.2 x5_1 p231 q231; cases e231; replace p231 := eq_true p231; replace q231 := eq_true q231; have p232 : 0 ≤ (x11_3 : Int) := of_decide_eq_true dg_; have q232 : x11_3 < (t221.length : Int) := of_decide_eq_true dg_; obtain ⟨ad232, e232, hx232_0⟩ := Kd.at_int (Kd.R_reads' HO_10.out).2.2 x11_3 p232 q232; obtain rfl : ad224 = ad232 := (by injection e232); replace p232 := eq_true p232; replace q232 := eq_true q232) | (go_at_call 115; (with_reducible refine (spec_l10Depths.calls k3 _ _ l0 (rd t221 x11_3) t235 _ ?side1 HC0.out A60.out).mono ?_); (case side1 => exact cb_ HR0.out HB.out); rintro e w_0 ⟨v236, rfl, ho0, hb⟩; have HO237 := Aside0.mk (Kd.R_lower (Kd.R_new' (Kd.R_new' ho0 (rl_ HO_3.out)) (rl_ HO_10.out)) (bz_ HB.out)); replace HO_3 := Aside0.mk (Kd.R_elder' (ra_ HO_3.out) (Kd.R_base ho0) hb); replace HO_10 := Aside0.mk (Kd.R_elder' (ra_ HO_10.out) (Kd.R_base ho0) hb); replace HB := Aside0.mk (bs_ HB.out hb); (try clear hb); (try clear ho0); obtain ⟨Ao66, co66, eo66⟩ := Kd.R_slice HO237.out; subst eo66; have p238 : 0 ≤ (x5_1 : Int) := of_decide_eq_true dg_; have q238 : x5_1 < (t235.length : Int) := of_decide_eq_true dg_; obtain ⟨ad238, e238, hx238_0⟩ := Kd.at_int (Kd.R_reads' HO237.out).2.2 x5_1 p238 q238; cases e238; replace p238 := eq_true p238; replace q238 := eq_true q238; have p239 : 0 ≤ (x11_3 : Int) := of_decide_eq_true dg_; have q239 : x11_3 < (t221.length : Int) := of_decide_eq_true dg_; obtain ⟨ad239, e239, hx239_0⟩ := Kd.at_int (Kd.R_reads' HO_10.out).2.2 x11_3 p239 q239; obtain rfl : ad233 = ad239 := (by injection e239); replace p239 := eq_true p239; replace q239 := eq_true q239))
 go_roundg k3
 case measure => have := HK1.out; have := HK2.out; have := HK3.out; omega
 case rel => exact ⟨(y218), (rd t221 x11_3), (wrap64 (x9_2 + 1)), ef_, ef_, H', ⟨by have := HK1.out; have := HK2.out; have := HK3.out; omega⟩, ⟨by (with_reducible repeat (first | apply Kd.R_alloc | apply Kd.R_drewN | apply Kd.R_drew)); exact Kd.R_mono HO_3.out (fun _ hk => trivial)⟩, ⟨bb_ HB.out⟩⟩) : P := h
theorem spec_ShortestCycle.e3 {P : Prop} (h : P := by
 go_wp2_with (first | (go_at_call 115; (with_reducible refine (spec_l10Depths.calls k3 _ _ l0 (rd t221 x11_3) t228 _ ?side1 HC0.out A45.out).mono ?_); (case side1 => exact cb_ HR0.out HB.out); rintro e w_0 ⟨v229, rfl, ho0, hb⟩; have HO230 := Aside0.mk (Kd.R_lower (Kd.R_new' (Kd.R_new' ho0 (rl_ HO_3.out)) (rl_ HO_10.out)) (bz_ HB.out)); replace HO_3 := Aside0.mk (Kd.R_elder' (ra_ HO_3.out) (Kd.R_base ho0) hb); replace HO_10 := Aside0.mk (Kd.R_elder' (ra_ HO_10.out) (Kd.R_base ho0) hb); replace HB := Aside0.mk (bs_ HB.out hb); (try clear hb); (try clear ho0); obtain ⟨Ao54, co54, eo54⟩ := Kd.R_slice HO230.out; subst eo54; have p231 : 0 ≤ (x5_1 : Int) := of_decide_eq_true dg_; have q231 : x5_1 < (t228.length : Int) := of_decide_eq_true dg_; obtain ⟨ad231, e231, hx231_0⟩ := Kd.at_int (Kd.R_reads' HO230.out).2.2 x5_1 p231 q231; cases e231; replace p231 := eq_true p231; replace q231 := eq_true q231) | (go_at_call 115; (with_reducible refine (spec_l10Depths.calls k3 _ _ l0 (rd t221 x11_3) t235 _ ?side1 HC0.out A60.out).mono ?_); (case side1 => exact cb_ HR0.out HB.out); rintro e w_0 ⟨v236, rfl, ho0, hb⟩; have HO237 := Aside0.mk (Kd.R_lower (Kd.R_new' (Kd.R_new' ho0 (rl_ HO_3.out)) (rl_ HO_10.out)) (bz_ HB.out)); replace HO_3 := Aside0.mk (Kd.R_elder' (ra_ HO_3.out) (Kd.R_base ho0) hb); replace HO_10 := Aside0.mk (Kd.R_elder' (ra_ HO_10.out) (Kd.R_base ho0) hb); replace HB := Aside0.mk (bs_ HB.out hb); (try clear hb); (try clear ho0); obtain ⟨Ao69, co69, eo69⟩ := Kd.R_slice HO237.out; subst eo69; have p238 : 0 ≤ (x5_1 : Int) := of_decide_eq_true dg_; have q238 : x5_1 < (t235.length : Int) := of_decide_eq_true dg_; obtain ⟨ad238, e238, hx238_0⟩ := Kd.at_int (Kd.R_reads' HO237.out).2.2 x5_1 p238 q238; cases e238; replace p238 := eq_true p238; replace q238 := eq_true q238))
 go_roundg k3
 case measure => have := HK1.out; have := HK2.out; have := HK3.out; omega
 case rel => exact ⟨(x8_3), (wrap64 (x11_3 + 1)), ef_, ef_, H', ⟨by have := HK1.out; have := HK2.out; have := HK3.out; omega⟩, ⟨by (with_reducible repeat (first | apply Kd.R_alloc | apply Kd.R_drewN | apply Kd.R_drew)); exact Kd.R_mono HO_3.out (fun _ hk => hk.1)⟩, ⟨by (with_reducible repeat (first | apply Kd.R_alloc | apply Kd.R_drewN | apply Kd.R_drew)); exact Kd.R_mono HO_10.out (fun _ hk => hk.1)⟩, ⟨bb_ HB.out⟩⟩) : P := h
theorem spec_ShortestCycle.e4 {P : Prop} (h : P := by
 go_wp2
 go_roundg k3
 case measure => have := HK1.out; have := HK2.out; have := HK3.out; omega
 case rel => exact ⟨(x8_3), (wrap64 (x11_3 + 1)), ef_, ef_, H', ⟨by have := HK1.out; have := HK2.out; have := HK3.out; omega⟩, ⟨by (with_reducible repeat (first | apply Kd.R_alloc | apply Kd.R_drewN | apply Kd.R_drew)); exact HO_3.out⟩, ⟨by (with_reducible repeat (first | apply Kd.R_alloc | apply Kd.R_drewN | apply Kd.R_drew)); exact HO_10.out⟩, ⟨bb_ HB.out⟩⟩) : P := h
set_option maxHeartbeats 8000000 in
set_option maxRecDepth 100000 in
theorem spec_ShortestCycle.calls (k : Nat) (A0 : Option Addr) (c0 : Nat) (l0 : List (S94)) (r : List Int) (w : World) (hr0 : Kd.C k94 w A0 l0.length l0) (hc0 : l0.length ≤ c0) (h : spec_ShortestCycle.f k l0 = some r) :
  Calls Try.prog 76 #[.slice A0 l0.length c0] w fun e w' => ∃ v0_ : Value, e = .returned (v0_) ∧ Kd.R (Kd.int .i64) 3 w' w.heap.size (fun _ => True) v0_ r ∧ Below w.heap.size w w' := by
 have HR0 := Aside0.mk hr0
 have HC0 := Aside0.mk hc0
 clear hr0 hc0
 have HB := Aside0.mk (Below.refl w.heap.size w)
 have H : ((some (([] : List Int) : List Int)).bind fun y207 => ((spec_DependsOk.f k l0).bind fun t210 => (if t210 = true then (spec_ShortestCycle.l0 k l0 y207 0 (-1) 0) else (some y207)))) = some r := h
 clear h
 obtain ⟨y207, hy207⟩ : ∃ y_ : List Int, y_ = (([] : List Int)) := ⟨_, rfl⟩
 replace H : ((spec_DependsOk.f k l0).bind fun t210 => (if t210 = true then (spec_ShortestCycle.l0 k l0 y207 0 (-1) 0) else (some y207))) = some r := by first | (rw [hy207]; with_reducible exact H) | (have H2_ := (Option.bind_some _ _).symm.trans H; rw [hy207]; with_reducible exact H2_) | (have H2_ := (Option.bind_some _ _).symm.trans H; with_reducible exact H2_) | with_reducible exact H | (rw [hy207]; exact H) | exact H
 have Ny207 := Aside0.mk hy207
 clear hy207
 replace H := Option.bind_eq_some_iff.mp H
 obtain ⟨t210, A20, H⟩ := H
 try dsimp only at H
 have A2 := Aside0.mk A20
 clear A20
 by_cases c3 : t210 = true
 ·subst c3
  rw [if_pos rfl] at H
  have H' := Aside0.mk H
  clear H
  go_enter Try.func76, Try.ntmps76
  go_wp2_with (first | ((with_reducible refine gate_dst (N := 13) rfl ?_); refine Kd.R_lit (Kd.int .i64) _ 3 ?hg (N := 13) ?hd (xs := ([] : List Int)) (inner := []) (ok := fun _ => True) (okp := fun _ => True) ?hr ?hp (fun _ hk => hk) trivial (Below.refl _ _) (Nat.le_refl _) (by simp) ?_; (case hd => rfl); (case hg => rfl); (case hr => first | (go_simp; done) | (go_simp; rfl)); (case hp => exact (Reps.none _ _)); intro v208 w4 ho5 hb hg_ hnew_; clear hg_ hnew_; (first | rw [← Ny207.out] at ho5 | (simp only [Int.reduceToNat] at ho5; rw [← Ny207.out] at ho5)); have HO209 := Aside0.mk (Kd.R_lower ho5 (bz_ HB.out)); replace HB := Aside0.mk (bs_ HB.out hb); clear hb ho5) | ((with_reducible refine gate_callee (f := 112) rfl ?_); refine gm_ (some 15) Try.func112 #[.slice A0 l0.length c0] rfl ?_; (with_reducible refine (spec_DependsOk.calls k _ _ l0 true _ ?side1 HC0.out A2.out).mono ?_); (case side1 => exact cb_ HR0.out HB.out); rintro e w6 ⟨rfl, hb⟩; refine ⟨_, rfl, ?_⟩; replace HO209 := Aside0.mk (Kd.R_below (ra_ HO209.out) hb); replace HB := Aside0.mk (bs_ HB.out hb); (try clear hb)))
  go_loopg [4, 5, 6] k (fun kq v4 v5 v6 w' => ∃ (x4_1 : Int) (x5_1 : Int) (x6_1 : Int), v4 = .int .i64 x4_1 ∧ v5 = .int .i64 x5_1 ∧ v6 = .int .i64 x6_1 ∧ Aside0 (spec_ShortestCycle.l0 kq l0 y207 x4_1 x5_1 x6_1 = some r) ∧ Aside0 (kq ≤ k) ∧ Aside0 (Kd.R (Kd.int .i64) 3 w' w.heap.size (fun _ => True) v208 y207) ∧ Aside0 (Below w.heap.size w w'))
  case atStart => exact ⟨(0), ((-1)), (0), ef_, ef_, ef_, H', ⟨Nat.le_refl _⟩, ⟨by (with_reducible repeat (first | apply Kd.R_alloc | apply Kd.R_drewN | apply Kd.R_drew)); exact HO209.out⟩, ⟨bb_ HB.out⟩⟩
  case round =>
   clear H'
   try clear c3
   obtain ⟨x4_1, x5_1, x6_1, rfl, rfl, rfl, HA, HK1, HO_3, HB⟩ := hrel
   cases gk with
   | zero => exact absurd HA.out (by simp [spec_ShortestCycle.l0])
   | succ k1 =>
    have H := HA.out
    clear HA
    simp only [spec_ShortestCycle.l0] at H
    by_cases c7 : x6_1 < 128
    ·rw [if_pos c7] at H
     have c7b0 : decide (x6_1 < 128) = true := decide_eq_true c7
     clear c7
     replace H := Option.bind_eq_some_iff.mp H
     obtain ⟨t211, A80, H⟩ := H
     try dsimp only at H
     have A8 := Aside0.mk A80
     clear A80
     by_cases c9 : (t211.length : Int) = 0
     ·rw [if_pos c9] at H
      have c9b0 : ((t211.length : Int) == 0) = true := beq_iff_eq.mpr c9
      have c9b1 : ((t211.length : Int) != 0) = false := bne_eq_false_iff_eq.mpr c9
      clear c9
      have H' := Aside0.mk H
      clear H
      exact spec_ShortestCycle.e0
     ·rw [if_neg c9] at H
      have c9b0 : ((t211.length : Int) == 0) = false := beq_eq_false_iff_ne.mpr c9
      have c9b1 : ((t211.length : Int) != 0) = true := bne_iff_ne.mpr c9
      have c9b2 : ¬ (t211 = []) := fun h_ => c9 (by rw [h_]; rfl)
      replace H := Option.bind_eq_some_iff.mp H
      obtain ⟨t214, A120, H⟩ := H
      try dsimp only at H
      have A12 := Aside0.mk A120
      clear A120
      by_cases c13 : 0 ≤ x6_1
      ·rw [if_pos c13] at H
       have c13b0 : decide (0 ≤ x6_1) = true := decide_eq_true c13
       clear c13
       by_cases c14 : x6_1 < (t214.length : Int)
       ·rw [if_pos c14] at H
        have c14b0 : decide (x6_1 < (t214.length : Int)) = true := decide_eq_true c14
        clear c14
        by_cases c15 : (rd t214 x6_1) > 0
        ·rw [if_pos c15] at H
         have c15b0 : decide (0 < (rd t214 x6_1)) = true := decide_eq_true c15
         clear c15
         by_cases c16 : x4_1 = 0
         ·rw [if_pos c16] at H
          have c16b0 : (x4_1 == 0) = true := beq_iff_eq.mpr c16
          have c16b1 : (x4_1 != 0) = false := bne_eq_false_iff_eq.mpr c16
          clear c16
          have H' := Aside0.mk H
          clear H
          exact spec_ShortestCycle.e1
         ·rw [if_neg c16] at H
          have c16b0 : (x4_1 == 0) = false := beq_eq_false_iff_ne.mpr c16
          have c16b1 : (x4_1 != 0) = true := bne_iff_ne.mpr c16
          by_cases c21 : (rd t214 x6_1) < x4_1
          ·rw [if_pos c21] at H
           have c21b0 : decide ((rd t214 x6_1) < x4_1) = true := decide_eq_true c21
           clear c21
           have H' := Aside0.mk H
           clear H
           exact spec_ShortestCycle.e1
          ·rw [if_neg c21] at H
           have c21b0 : decide ((rd t214 x6_1) < x4_1) = false := decide_eq_false c21
           clear c21
           have H' := Aside0.mk H
           clear H
           exact spec_ShortestCycle.e0
        ·rw [if_neg c15] at H
         have c15b0 : decide (0 < (rd t214 x6_1)) = false := decide_eq_false c15
         clear c15
         have H' := Aside0.mk H
         clear H
         exact spec_ShortestCycle.e0
       ·rw [if_neg c14] at H
        exact absurd H (by simp)
      ·rw [if_neg c13] at H
       exact absurd H (by simp)
    ·rw [if_neg c7] at H
     have c7b0 : decide (x6_1 < 128) = false := decide_eq_false c7
     clear c7
     have H' := Aside0.mk H
     clear H
     go_wp2
     go_loopg [3, 8, 9] k1 (fun kq v3 v8 v9 w' => ∃ (x3_2 : List Int) (x8_2 : Int) (x9_2 : Int), v8 = .int .i64 x8_2 ∧ v9 = .int .i64 x9_2 ∧ Aside0 (spec_ShortestCycle.l1 kq l0 x3_2 x4_1 x5_1 x8_2 x9_2 = some r) ∧ Aside0 (kq ≤ k1) ∧ Aside0 (Kd.R (Kd.int .i64) 3 w' w.heap.size (fun _ => True) v3 x3_2) ∧ Aside0 (Below w.heap.size w w'))
     case atStart => exact ⟨(y207), (x5_1), (0), ef_, ef_, H', ⟨Nat.le_refl _⟩, ⟨by (with_reducible repeat (first | apply Kd.R_alloc | apply Kd.R_drewN | apply Kd.R_drew)); exact HO_3.out⟩, ⟨bb_ HB.out⟩⟩
     case round =>
      clear H'
      try clear c3
      try clear c7
      try clear c7b0
      obtain ⟨x3_2, x8_2, x9_2, rfl, rfl, HA, HK2, HO_3, HB⟩ := hrel
      cases gk with
      | zero => exact absurd HA.out (by simp [spec_ShortestCycle.l1])
      | succ k2 =>
       have H := HA.out
       clear HA
       simp only [spec_ShortestCycle.l1] at H
       by_cases c34 : x9_2 < x4_1
       ·rw [if_pos c34] at H
        have c34b0 : decide (x9_2 < x4_1) = true := decide_eq_true c34
        clear c34
        by_cases c35 : x3_2.length < 17592186044416
        ·rw [if_pos c35] at H
         have LMc35 := Aside0.mk c35
         clear c35
         obtain ⟨y218, hy218⟩ : ∃ y_ : List Int, y_ = (x3_2 ++ [x8_2]) := ⟨_, rfl⟩
         replace H : ((spec_SuccessorsOf.f k2 l0 x8_2).bind fun t221 => (spec_ShortestCycle.l2 k2 l0 y218 x4_1 x5_1 x8_2 x9_2 t221 0)) = some r := by first | (rw [hy218]; with_reducible exact H) | (have H2_ := (Option.bind_some _ _).symm.trans H; rw [hy218]; with_reducible exact H2_) | (have H2_ := (Option.bind_some _ _).symm.trans H; with_reducible exact H2_) | with_reducible exact H | (rw [hy218]; exact H) | exact H
         have Ny218 := Aside0.mk hy218
         clear hy218
         replace H := Option.bind_eq_some_iff.mp H
         obtain ⟨t221, A360, H⟩ := H
         try dsimp only at H
         have A36 := Aside0.mk A360
         clear A360
         have H' := Aside0.mk H
         clear H
         go_wp2_with (first | ((with_reducible refine gate_builtin (b := .append) (xs := #[.tmp 52, .tmp 54]) rfl ?_); at_builtin; refine Kd.R_append (Kd.int .i64) (w0 := w) w.heap.size rfl (.tmp 52) (.tmp 54) 29 3 (.int .i64 0) 8 rfl Try.underlying29 info3 rfl (by decide) (by omega) u3 x3_2 x8_2 [.int .i64 x8_2] (fun _ => True) (fun _ => False) rfl rfl ?aP (fun _ hk => hk.elim) ?aF ?aO ?aB ?aS ?aL ?_; (case aP => exact rfl); (case aB => exact (by repeat (first | (with_reducible first | exact HB.out | apply below_alloc | apply pw_below_drewN | apply below_drew1) | exact HB.out))); (case aF => exact (fun _ _ => trivial)); (case aO => exact (ra_ HO_3.out)); (case aS => exact (bz_ HB.out)); (case aL => have := LMc35.out; omega); intro v219 w37 ho hb hg hat; rw [← Ny218.out] at ho; have n0_ := Aside0.mk (hb); have n1_ := Aside0.mk (ho); clear HB; clear HO_3; have HB := n0_; have HO220 := n1_; clear n0_ n1_; clear ho hb hg hat) | ((with_reducible refine gate_callee (f := 114) rfl ?_); refine gm_ (some 58) Try.func114 #[.slice A0 l0.length c0, .int .i64 x8_2] rfl ?_; (with_reducible refine (spec_SuccessorsOf.calls k2 _ _ l0 x8_2 t221 _ ?side1 HC0.out A36.out).mono ?_); (case side1 => exact cb_ HR0.out HB.out); rintro e w38 ⟨v222, rfl, ho0, hb⟩; refine ⟨_, rfl, ?_⟩; have HO223 := Aside0.mk (Kd.R_lower (Kd.R_new' ho0 (rl_ HO220.out)) (bz_ HB.out)); replace HO220 := Aside0.mk (Kd.R_elder' (ra_ HO220.out) (Kd.R_base ho0) hb); replace HB := Aside0.mk (bs_ HB.out hb); (try clear hb); (try clear ho0)))
         go_loopg [8, 11] k2 (fun kq v8 v11 w' => ∃ (x8_3 : Int) (x11_3 : Int), v8 = .int .i64 x8_3 ∧ v11 = .int .i64 x11_3 ∧ Aside0 (spec_ShortestCycle.l2 kq l0 y218 x4_1 x5_1 x8_3 x9_2 t221 x11_3 = some r) ∧ Aside0 (kq ≤ k2) ∧ Aside0 (Kd.R (Kd.int .i64) 3 w' w.heap.size (fun k_ => some k_ ≠ (v222 : Value).ownBlock) v219 y218) ∧ Aside0 (Kd.R (Kd.int .i64) 3 w' w.heap.size (fun k_ => some k_ ≠ (v219 : Value).ownBlock) v222 t221) ∧ Aside0 (Below w.heap.size w w'))
         case atStart => exact ⟨(x8_2), (0), ef_, ef_, H', ⟨Nat.le_refl _⟩, ⟨by (with_reducible repeat (first | apply Kd.R_alloc | apply Kd.R_drewN | apply Kd.R_drew)); exact Kd.R_mono HO220.out (fun _ hk => hk.2)⟩, ⟨by (with_reducible repeat (first | apply Kd.R_alloc | apply Kd.R_drewN | apply Kd.R_drew)); exact Kd.R_mono HO223.out (fun _ hk => hk.2)⟩, ⟨bb_ HB.out⟩⟩
         case round =>
          clear H'
          try clear c3
          try clear c7
          try clear c7b0
          try clear c34
          try clear c34b0
          try clear c35
          obtain ⟨x8_3, x11_3, rfl, rfl, HA, HK3, HO_3, HO_10, HB⟩ := hrel
          cases gk with
          | zero => exact absurd HA.out (by simp [spec_ShortestCycle.l2])
          | succ k3 =>
           have H := HA.out
           clear HA
           simp only [spec_ShortestCycle.l2] at H
           by_cases c39 : x11_3 < (t221.length : Int)
           ·rw [if_pos c39] at H
            have c39b0 : decide (x11_3 < (t221.length : Int)) = true := decide_eq_true c39
            clear c39
            by_cases c40 : (wrap64 ((wrap64 (x4_1 - x9_2)) - 1)) = 0
            ·rw [if_pos c40] at H
             have c40b0 : ((wrap64 ((wrap64 (x4_1 - x9_2)) - 1)) == 0) = true := beq_iff_eq.mpr c40
             have c40b1 : ((wrap64 ((wrap64 (x4_1 - x9_2)) - 1)) != 0) = false := bne_eq_false_iff_eq.mpr c40
             clear c40
             by_cases c41 : 0 ≤ x11_3
             ·rw [if_pos c41] at H
              have c41b0 : decide (0 ≤ x11_3) = true := decide_eq_true c41
              clear c41
              by_cases c42 : (rd t221 x11_3) = x5_1
              ·rw [if_pos c42] at H
               have c42b0 : ((rd t221 x11_3) == x5_1) = true := beq_iff_eq.mpr c42
               have c42b1 : ((rd t221 x11_3) != x5_1) = false := bne_eq_false_iff_eq.mpr c42
               clear c42
               have H' := Aside0.mk H
               clear H
               obtain ⟨Ao43, co43, eo43⟩ := Kd.R_slice HO_10.out
               subst eo43
               have p224 : 0 ≤ (x11_3 : Int) := of_decide_eq_true dg_
               have q224 : x11_3 < (t221.length : Int) := of_decide_eq_true dg_
               obtain ⟨ad224, e224, hx224_0⟩ := Kd.at_int (Kd.R_reads' HO_10.out).2.2 x11_3 p224 q224
               cases e224
               replace p224 := eq_true p224
               replace q224 := eq_true q224
               have p225 : 0 ≤ (x11_3 : Int) := of_decide_eq_true dg_
               have q225 : x11_3 < (t221.length : Int) := of_decide_eq_true dg_
               obtain ⟨ad225, e225, hx225_0⟩ := Kd.at_int (Kd.R_reads' HO_10.out).2.2 x11_3 p225 q225
               obtain rfl : ad224 = ad225 := (by injection e225)
               replace p225 := eq_true p225
               replace q225 := eq_true q225
               exact spec_ShortestCycle.e2
              ·rw [if_neg c42] at H
               have c42b0 : ((rd t221 x11_3) == x5_1) = false := beq_eq_false_iff_ne.mpr c42
               have c42b1 : ((rd t221 x11_3) != x5_1) = true := bne_iff_ne.mpr c42
               by_cases c44 : (wrap64 ((wrap64 (x4_1 - x9_2)) - 1)) > 0
               ·rw [if_pos c44] at H
                have c44b0 : decide (0 < (wrap64 ((wrap64 (x4_1 - x9_2)) - 1))) = true := decide_eq_true c44
                clear c44
                replace H := Option.bind_eq_some_iff.mp H
                obtain ⟨t228, A450, H⟩ := H
                try dsimp only at H
                have A45 := Aside0.mk A450
                clear A450
                by_cases c46 : 0 ≤ x5_1
                ·rw [if_pos c46] at H
                 have c46b0 : decide (0 ≤ x5_1) = true := decide_eq_true c46
                 clear c46
                 by_cases c47 : x5_1 < (t228.length : Int)
                 ·rw [if_pos c47] at H
                  have c47b0 : decide (x5_1 < (t228.length : Int)) = true := decide_eq_true c47
                  clear c47
                  by_cases c48 : (rd t228 x5_1) = (wrap64 ((wrap64 (x4_1 - x9_2)) - 1))
                  ·rw [if_pos c48] at H
                   have c48b0 : ((rd t228 x5_1) == (wrap64 ((wrap64 (x4_1 - x9_2)) - 1))) = true := beq_iff_eq.mpr c48
                   have c48b1 : ((rd t228 x5_1) != (wrap64 ((wrap64 (x4_1 - x9_2)) - 1))) = false := bne_eq_false_iff_eq.mpr c48
                   clear c48
                   have H' := Aside0.mk H
                   clear H
                   obtain ⟨Ao49, co49, eo49⟩ := Kd.R_slice HO_10.out
                   subst eo49
                   have p224 : 0 ≤ (x11_3 : Int) := of_decide_eq_true dg_
                   have q224 : x11_3 < (t221.length : Int) := of_decide_eq_true dg_
                   obtain ⟨ad224, e224, hx224_0⟩ := Kd.at_int (Kd.R_reads' HO_10.out).2.2 x11_3 p224 q224
                   cases e224
                   replace p224 := eq_true p224
                   replace q224 := eq_true q224
                   have p226 : 0 ≤ (x11_3 : Int) := of_decide_eq_true dg_
                   have q226 : x11_3 < (t221.length : Int) := of_decide_eq_true dg_
                   obtain ⟨ad226, e226, hx226_0⟩ := Kd.at_int (Kd.R_reads' HO_10.out).2.2 x11_3 p226 q226
                   obtain rfl : ad224 = ad226 := (by injection e226)
                   replace p226 := eq_true p226
                   replace q226 := eq_true q226
                   have p227 : 0 ≤ (x11_3 : Int) := of_decide_eq_true dg_
                   have q227 : x11_3 < (t221.length : Int) := of_decide_eq_true dg_
                   obtain ⟨ad227, e227, hx227_0⟩ := Kd.at_int (Kd.R_reads' HO_10.out).2.2 x11_3 p227 q227
                   obtain rfl : ad224 = ad227 := (by injection e227)
                   replace p227 := eq_true p227
                   replace q227 := eq_true q227
                   exact spec_ShortestCycle.e2
                  ·rw [if_neg c48] at H
                   have c48b0 : ((rd t228 x5_1) == (wrap64 ((wrap64 (x4_1 - x9_2)) - 1))) = false := beq_eq_false_iff_ne.mpr c48
                   have c48b1 : ((rd t228 x5_1) != (wrap64 ((wrap64 (x4_1 - x9_2)) - 1))) = true := bne_iff_ne.mpr c48
                   have H' := Aside0.mk H
                   clear H
                   obtain ⟨Ao52, co52, eo52⟩ := Kd.R_slice HO_10.out
                   subst eo52
                   have p224 : 0 ≤ (x11_3 : Int) := of_decide_eq_true dg_
                   have q224 : x11_3 < (t221.length : Int) := of_decide_eq_true dg_
                   obtain ⟨ad224, e224, hx224_0⟩ := Kd.at_int (Kd.R_reads' HO_10.out).2.2 x11_3 p224 q224
                   cases e224
                   replace p224 := eq_true p224
                   replace q224 := eq_true q224
                   have p226 : 0 ≤ (x11_3 : Int) := of_decide_eq_true dg_
                   have q226 : x11_3 < (t221.length : Int) := of_decide_eq_true dg_
                   obtain ⟨ad226, e226, hx226_0⟩ := Kd.at_int (Kd.R_reads' HO_10.out).2.2 x11_3 p226 q226
                   obtain rfl : ad224 = ad226 := (by injection e226)
                   replace p226 := eq_true p226
                   replace q226 := eq_true q226
                   have p227 : 0 ≤ (x11_3 : Int) := of_decide_eq_true dg_
                   have q227 : x11_3 < (t221.length : Int) := of_decide_eq_true dg_
                   obtain ⟨ad227, e227, hx227_0⟩ := Kd.at_int (Kd.R_reads' HO_10.out).2.2 x11_3 p227 q227
                   obtain rfl : ad224 = ad227 := (by injection e227)
                   replace p227 := eq_true p227
                   replace q227 := eq_true q227
                   exact spec_ShortestCycle.e3
                 ·rw [if_neg c47] at H
                  exact absurd H (by simp)
                ·rw [if_neg c46] at H
                 exact absurd H (by simp)
               ·rw [if_neg c44] at H
                have c44b0 : decide (0 < (wrap64 ((wrap64 (x4_1 - x9_2)) - 1))) = false := decide_eq_false c44
                clear c44
                have H' := Aside0.mk H
                clear H
                obtain ⟨Ao55, co55, eo55⟩ := Kd.R_slice HO_10.out
                subst eo55
                have p224 : 0 ≤ (x11_3 : Int) := of_decide_eq_true dg_
                have q224 : x11_3 < (t221.length : Int) := of_decide_eq_true dg_
                obtain ⟨ad224, e224, hx224_0⟩ := Kd.at_int (Kd.R_reads' HO_10.out).2.2 x11_3 p224 q224
                cases e224
                replace p224 := eq_true p224
                replace q224 := eq_true q224
                exact spec_ShortestCycle.e4
             ·rw [if_neg c41] at H
              exact absurd H (by simp)
            ·rw [if_neg c40] at H
             have c40b0 : ((wrap64 ((wrap64 (x4_1 - x9_2)) - 1)) == 0) = false := beq_eq_false_iff_ne.mpr c40
             have c40b1 : ((wrap64 ((wrap64 (x4_1 - x9_2)) - 1)) != 0) = true := bne_iff_ne.mpr c40
             by_cases c56 : (wrap64 ((wrap64 (x4_1 - x9_2)) - 1)) > 0
             ·rw [if_pos c56] at H
              have c56b0 : decide (0 < (wrap64 ((wrap64 (x4_1 - x9_2)) - 1))) = true := decide_eq_true c56
              clear c56
              by_cases c57 : 0 ≤ x11_3
              ·rw [if_pos c57] at H
               have c57b0 : decide (0 ≤ x11_3) = true := decide_eq_true c57
               clear c57
               by_cases c58 : (rd t221 x11_3) = x5_1
               ·rw [if_pos c58] at H
                have c58b0 : ((rd t221 x11_3) == x5_1) = true := beq_iff_eq.mpr c58
                have c58b1 : ((rd t221 x11_3) != x5_1) = false := bne_eq_false_iff_eq.mpr c58
                clear c58
                have H' := Aside0.mk H
                clear H
                obtain ⟨Ao59, co59, eo59⟩ := Kd.R_slice HO_10.out
                subst eo59
                have p233 : 0 ≤ (x11_3 : Int) := of_decide_eq_true dg_
                have q233 : x11_3 < (t221.length : Int) := of_decide_eq_true dg_
                obtain ⟨ad233, e233, hx233_0⟩ := Kd.at_int (Kd.R_reads' HO_10.out).2.2 x11_3 p233 q233
                cases e233
                replace p233 := eq_true p233
                replace q233 := eq_true q233
                exact spec_ShortestCycle.e4
               ·rw [if_neg c58] at H
                have c58b0 : ((rd t221 x11_3) == x5_1) = false := beq_eq_false_iff_ne.mpr c58
                have c58b1 : ((rd t221 x11_3) != x5_1) = true := bne_iff_ne.mpr c58
                replace H := Option.bind_eq_some_iff.mp H
                obtain ⟨t235, A600, H⟩ := H
                try dsimp only at H
                have A60 := Aside0.mk A600
                clear A600
                by_cases c61 : 0 ≤ x5_1
                ·rw [if_pos c61] at H
                 have c61b0 : decide (0 ≤ x5_1) = true := decide_eq_true c61
                 clear c61
                 by_cases c62 : x5_1 < (t235.length : Int)
                 ·rw [if_pos c62] at H
                  have c62b0 : decide (x5_1 < (t235.length : Int)) = true := decide_eq_true c62
                  clear c62
                  by_cases c63 : (rd t235 x5_1) = (wrap64 ((wrap64 (x4_1 - x9_2)) - 1))
                  ·rw [if_pos c63] at H
                   have c63b0 : ((rd t235 x5_1) == (wrap64 ((wrap64 (x4_1 - x9_2)) - 1))) = true := beq_iff_eq.mpr c63
                   have c63b1 : ((rd t235 x5_1) != (wrap64 ((wrap64 (x4_1 - x9_2)) - 1))) = false := bne_eq_false_iff_eq.mpr c63
                   clear c63
                   have H' := Aside0.mk H
                   clear H
                   obtain ⟨Ao64, co64, eo64⟩ := Kd.R_slice HO_10.out
                   subst eo64
                   have p233 : 0 ≤ (x11_3 : Int) := of_decide_eq_true dg_
                   have q233 : x11_3 < (t221.length : Int) := of_decide_eq_true dg_
                   obtain ⟨ad233, e233, hx233_0⟩ := Kd.at_int (Kd.R_reads' HO_10.out).2.2 x11_3 p233 q233
                   cases e233
                   replace p233 := eq_true p233
                   replace q233 := eq_true q233
                   have p234 : 0 ≤ (x11_3 : Int) := of_decide_eq_true dg_
                   have q234 : x11_3 < (t221.length : Int) := of_decide_eq_true dg_
                   obtain ⟨ad234, e234, hx234_0⟩ := Kd.at_int (Kd.R_reads' HO_10.out).2.2 x11_3 p234 q234
                   obtain rfl : ad233 = ad234 := (by injection e234)
                   replace p234 := eq_true p234
                   replace q234 := eq_true q234
                   exact spec_ShortestCycle.e2
                  ·rw [if_neg c63] at H
                   have c63b0 : ((rd t235 x5_1) == (wrap64 ((wrap64 (x4_1 - x9_2)) - 1))) = false := beq_eq_false_iff_ne.mpr c63
                   have c63b1 : ((rd t235 x5_1) != (wrap64 ((wrap64 (x4_1 - x9_2)) - 1))) = true := bne_iff_ne.mpr c63
                   have H' := Aside0.mk H
                   clear H
                   obtain ⟨Ao67, co67, eo67⟩ := Kd.R_slice HO_10.out
                   subst eo67
                   have p233 : 0 ≤ (x11_3 : Int) := of_decide_eq_true dg_
                   have q233 : x11_3 < (t221.length : Int) := of_decide_eq_true dg_
                   obtain ⟨ad233, e233, hx233_0⟩ := Kd.at_int (Kd.R_reads' HO_10.out).2.2 x11_3 p233 q233
                   cases e233
                   replace p233 := eq_true p233
                   replace q233 := eq_true q233
                   have p234 : 0 ≤ (x11_3 : Int) := of_decide_eq_true dg_
                   have q234 : x11_3 < (t221.length : Int) := of_decide_eq_true dg_
                   obtain ⟨ad234, e234, hx234_0⟩ := Kd.at_int (Kd.R_reads' HO_10.out).2.2 x11_3 p234 q234
                   obtain rfl : ad233 = ad234 := (by injection e234)
                   replace p234 := eq_true p234
                   replace q234 := eq_true q234
                   exact spec_ShortestCycle.e3
                 ·rw [if_neg c62] at H
                  exact absurd H (by simp)
                ·rw [if_neg c61] at H
                 exact absurd H (by simp)
              ·rw [if_neg c57] at H
               exact absurd H (by simp)
             ·rw [if_neg c56] at H
              have c56b0 : decide (0 < (wrap64 ((wrap64 (x4_1 - x9_2)) - 1))) = false := decide_eq_false c56
              clear c56
              have H' := Aside0.mk H
              clear H
              obtain ⟨Ao70, co70, eo70⟩ := Kd.R_slice HO_10.out
              subst eo70
              exact spec_ShortestCycle.e4
           ·rw [if_neg c39] at H
            have c39b0 : decide (x11_3 < (t221.length : Int)) = false := decide_eq_false c39
            clear c39
            have H' := Aside0.mk H
            clear H
            obtain ⟨Ao71, co71, eo71⟩ := Kd.R_slice HO_10.out
            subst eo71
            go_wp2
            go_roundg k3
            case measure => have := HK1.out; have := HK2.out; have := HK3.out; omega
            case rel => exact ⟨(y218), (x8_3), (wrap64 (x9_2 + 1)), ef_, ef_, H', ⟨by have := HK1.out; have := HK2.out; have := HK3.out; omega⟩, ⟨by (with_reducible repeat (first | apply Kd.R_alloc | apply Kd.R_drewN | apply Kd.R_drew)); exact Kd.R_mono HO_3.out (fun _ hk => trivial)⟩, ⟨bb_ HB.out⟩⟩
        ·rw [if_neg c35] at H
         exact absurd H (by simp)
       ·rw [if_neg c34] at H
        have c34b0 : decide (x9_2 < x4_1) = false := decide_eq_false c34
        clear c34
        obtain rfl := Option.some.inj H
        go_wp2
        go_ret
        exact ⟨_, fin_, by (with_reducible repeat (first | apply Kd.R_alloc | apply Kd.R_drewN | apply Kd.R_drew)); exact HO_3.out, bb_ HB.out⟩
 ·replace c3 := Bool.eq_false_iff.mpr c3
  subst c3
  rw [if_neg (show ¬ (false = true) by decide)] at H
  obtain rfl := Option.some.inj H
  go_enter Try.func76, Try.ntmps76
  go_wp2_with (first | ((with_reducible refine gate_dst (N := 13) rfl ?_); refine Kd.R_lit (Kd.int .i64) _ 3 ?hg (N := 13) ?hd (xs := ([] : List Int)) (inner := []) (ok := fun _ => True) (okp := fun _ => True) ?hr ?hp (fun _ hk => hk) trivial (Below.refl _ _) (Nat.le_refl _) (by simp) ?_; (case hd => rfl); (case hg => rfl); (case hr => first | (go_simp; done) | (go_simp; rfl)); (case hp => exact (Reps.none _ _)); intro v208 w72 ho73 hb hg_ hnew_; clear hg_ hnew_; (first | rw [← Ny207.out] at ho73 | (simp only [Int.reduceToNat] at ho73; rw [← Ny207.out] at ho73)); have HO209 := Aside0.mk (Kd.R_lower ho73 (bz_ HB.out)); replace HB := Aside0.mk (bs_ HB.out hb); clear hb ho73) | ((with_reducible refine gate_callee (f := 112) rfl ?_); refine gm_ (some 15) Try.func112 #[.slice A0 l0.length c0] rfl ?_; (with_reducible refine (spec_DependsOk.calls k _ _ l0 false _ ?side1 HC0.out A2.out).mono ?_); (case side1 => exact cb_ HR0.out HB.out); rintro e w74 ⟨rfl, hb⟩; refine ⟨_, rfl, ?_⟩; replace HO209 := Aside0.mk (Kd.R_below (ra_ HO209.out) hb); replace HB := Aside0.mk (bs_ HB.out hb); (try clear hb)))
  go_ret
  exact ⟨_, fin_, by (with_reducible repeat (first | apply Kd.R_alloc | apply Kd.R_drewN | apply Kd.R_drew)); exact HO209.out, bb_ HB.out⟩

/-! ### spec_HasCycle: function 68 -/
def spec_HasCycle.f (k : Nat) (l0 : List (S94)) : Option (Bool) := (spec_ShortestCycle.f k l0).bind fun t240 => (some (decide ((t240.length : Int) > 0)))
theorem spec_HasCycle.mono : ∀ a0 k, LeO (spec_HasCycle.f k a0) (spec_HasCycle.f (k + 1) a0) := by
 intro a0 k
 unfold spec_HasCycle.f
 repeat' first
   | (with_reducible exact spec_ShortestCycle.mono _ _)
   | (with_reducible exact LeO.refl _)
   | (with_reducible exact LeO.none _)
   | (with_reducible refine LeO.ite ?_ ?_)
   | (with_reducible refine LeO.bind ?_ (fun _ => ?_))
   | exact spec_ShortestCycle.mono _ _
   | exact LeO.none _
   | refine LeO.ite ?_ ?_
   | refine LeO.bind ?_ (fun _ => ?_)
set_option maxHeartbeats 8000000 in
set_option maxRecDepth 100000 in
theorem spec_HasCycle.calls (k : Nat) (A0 : Option Addr) (c0 : Nat) (l0 : List (S94)) (r : Bool) (w : World) (hr0 : Kd.C k94 w A0 l0.length l0) (hc0 : l0.length ≤ c0) (h : spec_HasCycle.f k l0 = some r) :
  Calls Try.prog 68 #[.slice A0 l0.length c0] w fun e w' => e = .returned (.bool r) ∧ Below w.heap.size w w' := by
 have HR0 := Aside0.mk hr0
 have HC0 := Aside0.mk hc0
 clear hr0 hc0
 have HB := Aside0.mk (Below.refl w.heap.size w)
 have H : ((spec_ShortestCycle.f k l0).bind fun t240 => (some (decide ((t240.length : Int) > 0)))) = some r := h
 clear h
 replace H := Option.bind_eq_some_iff.mp H
 obtain ⟨t240, A20, H⟩ := H
 try dsimp only at H
 have A2 := Aside0.mk A20
 clear A20
 obtain rfl := Option.some.inj H
 go_enter Try.func68, Try.ntmps68
 go_wp2_with (first | ((with_reducible refine gate_callee (f := 76) rfl ?_); refine gm_ (some 4) Try.func76 #[.slice A0 l0.length c0] rfl ?_; (with_reducible refine (spec_ShortestCycle.calls k _ _ l0 t240 _ ?side1 HC0.out A2.out).mono ?_); (case side1 => repeat (first | exact HR0.out | (with_reducible refine Kd.C_alloc ?_ _) | (with_reducible refine Kd.C_drewN ?_ _) | (with_reducible refine Kd.C_drew ?_))); rintro e w3 ⟨v241, rfl, ho0, hb⟩; refine ⟨_, rfl, ?_⟩; have HO242 := Aside0.mk (Kd.R_lower ho0 (bz_ HB.out)); replace HB := Aside0.mk (bs_ HB.out hb); (try clear hb); (try clear ho0); obtain ⟨Ao4, co4, eo4⟩ := Kd.R_slice HO242.out; subst eo4))
 go_ret
 exact ⟨fin_, bb_ HB.out⟩

/-! ### spec_RingIsSafe: function 18 -/
def spec_RingIsSafe.f (k : Nat) (a0 : Int) (a1 : Bool) : Option (Bool) := (spec_l01In.f a0 2 12).bind fun t243 => (if t243 = true then ((spec_RingDepends.f k a0 a1).bind fun t244 => ((spec_HasCycle.f k t244).bind fun t247 => (some (!t247)))) else (some false))
theorem spec_RingIsSafe.mono : ∀ a0 a1 k, LeO (spec_RingIsSafe.f k a0 a1) (spec_RingIsSafe.f (k + 1) a0 a1) := by
 intro a0 a1 k
 unfold spec_RingIsSafe.f
 repeat' first
   | (with_reducible exact spec_HasCycle.mono _ _)
   | (with_reducible exact spec_RingDepends.mono _ _ _)
   | (with_reducible exact LeO.refl _)
   | (with_reducible exact LeO.none _)
   | (with_reducible refine LeO.ite ?_ ?_)
   | (with_reducible refine LeO.bind ?_ (fun _ => ?_))
   | exact spec_HasCycle.mono _ _
   | exact spec_RingDepends.mono _ _ _
   | exact LeO.none _
   | refine LeO.ite ?_ ?_
   | refine LeO.bind ?_ (fun _ => ?_)
theorem spec_RingIsSafe.e0 {P : Prop} (h : P := by
 go_enter Try.func18, Try.ntmps18
 go_wp2_with (first | ((with_reducible refine gate_callee (f := 61) rfl ?_); refine gm_ (some 6) Try.func61 #[.int .i64 a0, .int .i64 2, .int .i64 12] rfl ?_; (with_reducible refine (spec_l01In.calls a0 2 12 _ _ A3.out).mono ?_); rintro e w' ⟨rfl, ⟨nd, rfl⟩⟩; refine ⟨_, rfl, ?_⟩) | (go_at_call 13; (with_reducible refine (spec_RingDepends.calls k a0 a1 t244 _ A5.out).mono ?_); rintro e w_0 ⟨v245, rfl, ho0, hb⟩; have HO246 := Aside0.mk (Kd.R_lower ho0 (bz_ HB.out)); replace HB := Aside0.mk (bs_ HB.out hb); (try clear hb); (try clear ho0); obtain ⟨Ao8, co8, eo8⟩ := Kd.R_slice HO246.out; subst eo8) | (go_at_call 68; (with_reducible refine (spec_HasCycle.calls k _ _ t244 t247 _ ?side1 ?side2 A6.out).mono ?_); (case side1 => repeat (first | exact (Kd.R_reads' HO246.out).2.2 | (with_reducible refine Kd.C_alloc ?_ _) | (with_reducible refine Kd.C_drewN ?_ _) | (with_reducible refine Kd.C_drew ?_))); (case side2 => exact (Kd.R_reads' HO246.out).2.1); rintro e w_0 ⟨rfl, hb⟩; replace HO246 := Aside0.mk (Kd.R_below (ra_ HO246.out) hb); replace HB := Aside0.mk (bs_ HB.out hb); (try clear hb)))
 go_ret
 exact ⟨fin_, bb_ HB.out⟩) : P := h
set_option maxHeartbeats 8000000 in
set_option maxRecDepth 100000 in
theorem spec_RingIsSafe.calls (k : Nat) (a0 : Int) (a1 : Bool) (r : Bool) (w : World) (h : spec_RingIsSafe.f k a0 a1 = some r) :
  Calls Try.prog 18 #[.int .i64 a0, .bool a1] w fun e w' => e = .returned (.bool r) ∧ Below w.heap.size w w' := by
 have HB := Aside0.mk (Below.refl w.heap.size w)
 have H : ((spec_l01In.f a0 2 12).bind fun t243 => (if t243 = true then ((spec_RingDepends.f k a0 a1).bind fun t244 => ((spec_HasCycle.f k t244).bind fun t247 => (some (!t247)))) else (some false))) = some r := h
 clear h
 replace H := Option.bind_eq_some_iff.mp H
 obtain ⟨t243, A30, H⟩ := H
 try dsimp only at H
 have A3 := Aside0.mk A30
 clear A30
 by_cases c4 : t243 = true
 ·subst c4
  rw [if_pos rfl] at H
  replace H := Option.bind_eq_some_iff.mp H
  obtain ⟨t244, A50, H⟩ := H
  try dsimp only at H
  have A5 := Aside0.mk A50
  clear A50
  replace H := Option.bind_eq_some_iff.mp H
  obtain ⟨t247, A60, H⟩ := H
  try dsimp only at H
  have A6 := Aside0.mk A60
  clear A60
  obtain rfl := Option.some.inj H
  exact spec_RingIsSafe.e0
 ·replace c4 := Bool.eq_false_iff.mpr c4
  subst c4
  rw [if_neg (show ¬ (false = true) by decide)] at H
  obtain rfl := Option.some.inj H
  exact spec_RingIsSafe.e0

/-! ### impl_inside: function 94 -/
def impl_inside.f (a0 : Int) (a1 : Int) (a2 : Int) : Option (Bool) := if a1 ≤ a0 then (some (decide (a0 ≤ a2))) else (some false)
theorem impl_inside.e0 {P : Prop} (h : P := by
 go_enter Try.func94, Try.ntmps94
 go_wp2
 go_ret
 exact ⟨by first | rfl | (simp; done) | (simp [*]; done), by repeat (first | exact Drawn0.refl _ | apply Drawn0.step)⟩) : P := h
set_option maxHeartbeats 8000000 in
set_option maxRecDepth 100000 in
theorem impl_inside.calls (a0 : Int) (a1 : Int) (a2 : Int) (r : Bool) (w : World) (h : impl_inside.f a0 a1 a2 = some r) :
  Calls Try.prog 94 #[.int .i64 a0, .int .i64 a1, .int .i64 a2] w fun e w' => e = .returned (.bool r) ∧ Drawn0 w w' := by
 have H : (if a1 ≤ a0 then (some (decide (a0 ≤ a2))) else (some false)) = some r := h
 clear h
 by_cases c4 : a1 ≤ a0
 ·rw [if_pos c4] at H
  have c4b0 : decide (a1 ≤ a0) = true := decide_eq_true c4
  clear c4
  obtain rfl := Option.some.inj H
  exact impl_inside.e0
 ·rw [if_neg c4] at H
  have c4b0 : decide (a1 ≤ a0) = false := decide_eq_false c4
  clear c4
  obtain rfl := Option.some.inj H
  exact impl_inside.e0

/-! ### impl_isRing: function 64 -/
def impl_isRing.l0 : Nat → Int → List Int → Int → Int → Option (Bool)
 | 0, _, _, _, _ => none
 | k + 1, x0, x7, x8, x9 => if x9 < x8 then (if 0 ≤ x9 then (if x9 < (x7.length : Int) then ((impl_inside.f (rd x7 x9) 0 (wrap64 (x0 - 1))).bind fun t249 => (if t249 = true then (impl_isRing.l0 k x0 x7 x8 (wrap64 (x9 + 1))) else (some false))) else (none)) else (none)) else ((impl_inside.f x0 2 12).bind fun t250 => (some t250))
def impl_isRing.f (k : Nat) (a0 : Int) (l1 : List Int) : Option (Bool) := impl_isRing.l0 k a0 l1 (l1.length : Int) 0
theorem impl_isRing.mono_l : ∀ k, (∀ y0 y1 y2 y3, LeO (impl_isRing.l0 k y0 y1 y2 y3) (impl_isRing.l0 (k + 1) y0 y1 y2 y3))
 | 0 => fun _ _ _ _ r h => by simp [impl_isRing.l0] at h
 | k + 1 => by
  have ih0 := impl_isRing.mono_l k
  ·intro y0 y1 y2 y3
   unfold impl_isRing.l0
   repeat' first
   | (with_reducible exact ih0 _ _ _ _)
   | (with_reducible exact LeO.refl _)
   | (with_reducible exact LeO.none _)
   | (with_reducible refine LeO.ite ?_ ?_)
   | (with_reducible refine LeO.bind ?_ (fun _ => ?_))
   | exact ih0 _ _ _ _
   | exact LeO.none _
   | refine LeO.ite ?_ ?_
   | refine LeO.bind ?_ (fun _ => ?_)
theorem impl_isRing.mono : ∀ a0 a1 k, LeO (impl_isRing.f k a0 a1) (impl_isRing.f (k + 1) a0 a1) := by
 intro a0 a1 k
 have ih0 := impl_isRing.mono_l k
 unfold impl_isRing.f
 repeat' first
   | (with_reducible exact ih0 _ _ _ _)
   | (with_reducible exact LeO.refl _)
   | (with_reducible exact LeO.none _)
   | (with_reducible refine LeO.ite ?_ ?_)
   | (with_reducible refine LeO.bind ?_ (fun _ => ?_))
   | exact ih0 _ _ _ _
   | exact LeO.none _
   | refine LeO.ite ?_ ?_
   | refine LeO.bind ?_ (fun _ => ?_)
theorem impl_isRing.e0 {P : Prop} (h : P := by
 go_wp2_with (first | ((with_reducible refine gate_callee (f := 94) rfl ?_); refine gm_ (some 16) Try.func94 #[.int .i64 (rd l1 x9_1), .int .i64 0, .int .i64 (wrap64 (a0 - 1))] rfl ?_; (with_reducible refine (impl_inside.calls (rd l1 x9_1) 0 (wrap64 (a0 - 1)) _ _ A6.out).mono ?_); rintro e w' ⟨rfl, ⟨nd, rfl⟩⟩; refine ⟨_, rfl, ?_⟩) | ((with_reducible refine gate_callee (f := 94) rfl ?_); refine gm_ (some 20) Try.func94 #[.int .i64 a0, .int .i64 2, .int .i64 12] rfl ?_; (with_reducible refine (impl_inside.calls a0 2 12 t250 _ A8.out).mono ?_); rintro e w' ⟨rfl, ⟨nd, rfl⟩⟩; refine ⟨_, rfl, ?_⟩))
 go_ret
 exact ⟨by first | rfl | (simp; done) | (simp [*]; done), by repeat (first | exact Drawn0.refl _ | apply Drawn0.step)⟩) : P := h
set_option maxHeartbeats 8000000 in
set_option maxRecDepth 100000 in
theorem impl_isRing.calls (k : Nat) (a0 : Int) (A1 : Option Addr) (c1 : Nat) (l1 : List Int) (r : Bool) (w : World) (hr1 : Kd.C (Kd.int .i64) w A1 l1.length l1) (hc1 : l1.length ≤ c1) (h : impl_isRing.f k a0 l1 = some r) :
  Calls Try.prog 64 #[.int .i64 a0, .slice A1 l1.length c1] w fun e w' => e = .returned (.bool r) ∧ Drawn0 w w' := by
 have HR1 := Aside0.mk hr1
 have HC1 := Aside0.mk hc1
 clear hr1 hc1
 have H : (impl_isRing.l0 k a0 l1 (l1.length : Int) 0) = some r := h
 clear h
 have H' := Aside0.mk H
 clear H
 go_enter Try.func64, Try.ntmps64
 go_wp2
 go_loopg [9] k (fun kq v9 w' => ∃ (x9_1 : Int), v9 = .int .i64 x9_1 ∧ Aside0 (impl_isRing.l0 kq a0 l1 (l1.length : Int) x9_1 = some r) ∧ Aside0 (kq ≤ k) ∧ Drawn0 w w')
 case atStart => exact ⟨(0), ef_, H', ⟨Nat.le_refl _⟩, by repeat (first | exact Drawn0.refl _ | apply Drawn0.step)⟩
 case round =>
  clear H'
  obtain ⟨x9_1, rfl, HA, HK1, ⟨m1, rfl⟩⟩ := hrel
  cases gk with
  | zero => exact absurd HA.out (by simp [impl_isRing.l0])
  | succ k1 =>
   have H := HA.out
   clear HA
   simp only [impl_isRing.l0] at H
   by_cases c3 : x9_1 < (l1.length : Int)
   ·rw [if_pos c3] at H
    have c3b0 : decide (x9_1 < (l1.length : Int)) = true := decide_eq_true c3
    clear c3
    by_cases c4 : 0 ≤ x9_1
    ·rw [if_pos c4] at H
     have c4b0 : decide (0 ≤ x9_1) = true := decide_eq_true c4
     clear c4
     by_cases c5 : x9_1 < (l1.length : Int)
     ·rw [if_pos c5] at H
      have c5b0 : decide (x9_1 < (l1.length : Int)) = true := decide_eq_true c5
      clear c5
      replace H := Option.bind_eq_some_iff.mp H
      obtain ⟨t249, A60, H⟩ := H
      try dsimp only at H
      have A6 := Aside0.mk A60
      clear A60
      by_cases c7 : t249 = true
      ·subst c7
       rw [if_pos rfl] at H
       have H' := Aside0.mk H
       clear H
       have p248 : 0 ≤ (x9_1 : Int) := of_decide_eq_true dg_
       have q248 : x9_1 < (l1.length : Int) := of_decide_eq_true dg_
       obtain ⟨ad248, e248, hx248_0⟩ := Kd.at_int HR1.out x9_1 p248 q248
       cases e248
       replace p248 := eq_true p248
       replace q248 := eq_true q248
       go_wp2_with (first | ((with_reducible refine gate_callee (f := 94) rfl ?_); refine gm_ (some 16) Try.func94 #[.int .i64 (rd l1 x9_1), .int .i64 0, .int .i64 (wrap64 (a0 - 1))] rfl ?_; (with_reducible refine (impl_inside.calls (rd l1 x9_1) 0 (wrap64 (a0 - 1)) true _ A6.out).mono ?_); rintro e w' ⟨rfl, ⟨nd, rfl⟩⟩; refine ⟨_, rfl, ?_⟩))
       go_roundg k1
       case measure => have := HK1.out; omega
       case rel => exact ⟨(wrap64 (x9_1 + 1)), ef_, H', ⟨by have := HK1.out; omega⟩, by repeat (first | exact Drawn0.refl _ | apply Drawn0.step)⟩
      ·replace c7 := Bool.eq_false_iff.mpr c7
       subst c7
       rw [if_neg (show ¬ (false = true) by decide)] at H
       obtain rfl := Option.some.inj H
       have p248 : 0 ≤ (x9_1 : Int) := of_decide_eq_true dg_
       have q248 : x9_1 < (l1.length : Int) := of_decide_eq_true dg_
       obtain ⟨ad248, e248, hx248_0⟩ := Kd.at_int HR1.out x9_1 p248 q248
       cases e248
       replace p248 := eq_true p248
       replace q248 := eq_true q248
       exact impl_isRing.e0
     ·rw [if_neg c5] at H
      exact absurd H (by simp)
    ·rw [if_neg c4] at H
     exact absurd H (by simp)
   ·rw [if_neg c3] at H
    have c3b0 : decide (x9_1 < (l1.length : Int)) = false := decide_eq_false c3
    clear c3
    replace H := Option.bind_eq_some_iff.mp H
    obtain ⟨t250, A80, H⟩ := H
    try dsimp only at H
    have A8 := Aside0.mk A80
    clear A80
    obtain rfl := Option.some.inj H
    exact impl_isRing.e0

end Go.Proofs.Ytimdefbpoddoaaa.PFnExactRingIsSafe
-- thin
