/- Each function that the law comes to, as a plain function, with the proof that the call in the model gives what that function says (written by a program of this session out of the translation). No condition. -/
import Derived.Test.YtagmogkdlimofaaPFnExactShortestCyclex0
import Derived.Test.YtagmogkdlimofaaPFnExactShortestCyclex6
import Derived.Test.YtagmogkdlimofaaPFnExactShortestCyclex7
namespace Go.Proofs.Ytagmogkdlimofaa.PFnExactShortestCycle
open Go.RowKit Go.Proofs.YtagmogkdlimofaaW.PrintWords Go.Proofs.YtagmogkdlimofaaW.PrintLast Go.Proofs.YtagmogkdlimofaaW.PrintMore
attribute [local go_sem] max2_int min2_int max_two min_two max_three min_three max_four min_four   -- for this text's walks alone
set_option linter.unusedVariables false
set_option linter.unusedSimpArgs false

/-! ### spec_ShortestCycle: function 23 -/
mutual
def spec_ShortestCycle.l0 : Nat → List (S44) → List Int → Int → Int → Int → Option (List Int)
 | 0, _, _, _, _, _ => none
 | k + 1, x0, x3, x4, x5, x6 => if x6 < 128 then ((spec_SuccessorsOf.f k x0 x6).bind fun t212 => (if (t212.length : Int) = 0 then (spec_ShortestCycle.l0 k x0 x3 x4 x5 (wrap64 (x6 + 1))) else ((spec_l10Depths.f k x0 x6).bind fun t215 => (if 0 ≤ x6 then (if x6 < (t215.length : Int) then (if (rd t215 x6) > 0 then (if x4 = 0 then (spec_ShortestCycle.l0 k x0 x3 (rd t215 x6) x6 (wrap64 (x6 + 1))) else (if (rd t215 x6) < x4 then (spec_ShortestCycle.l0 k x0 x3 (rd t215 x6) x6 (wrap64 (x6 + 1))) else (spec_ShortestCycle.l0 k x0 x3 x4 x5 (wrap64 (x6 + 1))))) else (spec_ShortestCycle.l0 k x0 x3 x4 x5 (wrap64 (x6 + 1)))) else (none)) else (none))))) else (spec_ShortestCycle.l1 k x0 x3 x4 x5 x5 0)
def spec_ShortestCycle.l1 : Nat → List (S44) → List Int → Int → Int → Int → Int → Option (List Int)
 | 0, _, _, _, _, _, _ => none
 | k + 1, x0, x3, x4, x5, x8, x9 => if x9 < x4 then (if x3.length < 17592186044416 then ((spec_SuccessorsOf.f k x0 x8).bind fun t222 => (spec_ShortestCycle.l2 k x0 (x3 ++ [x8]) x4 x5 x8 x9 t222 0)) else (none)) else (some x3)
def spec_ShortestCycle.l2 : Nat → List (S44) → List Int → Int → Int → Int → Int → List Int → Int → Option (List Int)
 | 0, _, _, _, _, _, _, _, _ => none
 | k + 1, x0, x3, x4, x5, x8, x9, x10, x11 => if x11 < (x10.length : Int) then (if (wrap64 ((wrap64 (x4 - x9)) - 1)) = 0 then (if 0 ≤ x11 then (if (rd x10 x11) = x5 then (spec_ShortestCycle.l1 k x0 x3 x4 x5 (rd x10 x11) (wrap64 (x9 + 1))) else (if (wrap64 ((wrap64 (x4 - x9)) - 1)) > 0 then ((spec_l10Depths.f k x0 (rd x10 x11)).bind fun t229 => (if 0 ≤ x5 then (if x5 < (t229.length : Int) then (if (rd t229 x5) = (wrap64 ((wrap64 (x4 - x9)) - 1)) then (spec_ShortestCycle.l1 k x0 x3 x4 x5 (rd x10 x11) (wrap64 (x9 + 1))) else (spec_ShortestCycle.l2 k x0 x3 x4 x5 x8 x9 x10 (wrap64 (x11 + 1)))) else (none)) else (none))) else (spec_ShortestCycle.l2 k x0 x3 x4 x5 x8 x9 x10 (wrap64 (x11 + 1))))) else (none)) else (if (wrap64 ((wrap64 (x4 - x9)) - 1)) > 0 then (if 0 ≤ x11 then (if (rd x10 x11) = x5 then (spec_ShortestCycle.l2 k x0 x3 x4 x5 x8 x9 x10 (wrap64 (x11 + 1))) else ((spec_l10Depths.f k x0 (rd x10 x11)).bind fun t236 => (if 0 ≤ x5 then (if x5 < (t236.length : Int) then (if (rd t236 x5) = (wrap64 ((wrap64 (x4 - x9)) - 1)) then (spec_ShortestCycle.l1 k x0 x3 x4 x5 (rd x10 x11) (wrap64 (x9 + 1))) else (spec_ShortestCycle.l2 k x0 x3 x4 x5 x8 x9 x10 (wrap64 (x11 + 1)))) else (none)) else (none)))) else (none)) else (spec_ShortestCycle.l2 k x0 x3 x4 x5 x8 x9 x10 (wrap64 (x11 + 1))))) else (spec_ShortestCycle.l1 k x0 x3 x4 x5 x8 (wrap64 (x9 + 1)))
end
def spec_ShortestCycle.f (k : Nat) (l0 : List (S44)) : Option (List Int) := (some (([] : List Int) : List Int)).bind fun y208 => ((spec_DependsOk.f k l0).bind fun t211 => (if t211 = true then (spec_ShortestCycle.l0 k l0 y208 0 (-1) 0) else (some y208)))
theorem spec_ShortestCycle.mono_l : ∀ k, (∀ y0 y1 y2 y3 y4, LeO (spec_ShortestCycle.l0 k y0 y1 y2 y3 y4) (spec_ShortestCycle.l0 (k + 1) y0 y1 y2 y3 y4)) ∧ (∀ y0 y1 y2 y3 y4 y5, LeO (spec_ShortestCycle.l1 k y0 y1 y2 y3 y4 y5) (spec_ShortestCycle.l1 (k + 1) y0 y1 y2 y3 y4 y5)) ∧ (∀ y0 y1 y2 y3 y4 y5 y6 y7, LeO (spec_ShortestCycle.l2 k y0 y1 y2 y3 y4 y5 y6 y7) (spec_ShortestCycle.l2 (k + 1) y0 y1 y2 y3 y4 y5 y6 y7))
 | 0 => ⟨fun _ _ _ _ _ r h => by simp [spec_ShortestCycle.l0] at h, fun _ _ _ _ _ _ r h => by simp [spec_ShortestCycle.l1] at h, fun _ _ _ _ _ _ _ _ r h => by simp [spec_ShortestCycle.l2] at h⟩
 | k + 1 => by
  obtain ⟨ih0, ih1, ih2⟩ := spec_ShortestCycle.mono_l k
  refine ⟨?_, ?_, ?_⟩
  ·intro y0 y1 y2 y3 y4
   unfold spec_ShortestCycle.l0
   repeat' first
   | (with_reducible exact ih0 _ _ _ _ _)
   | (with_reducible exact ih1 _ _ _ _ _ _)
   | (with_reducible exact ih2 _ _ _ _ _ _ _ _)
   | (with_reducible exact spec_DependsOk.mono _ _)
   | (with_reducible exact spec_SuccessorsOf.mono _ _ _)
   | (with_reducible exact spec_l10Depths.mono _ _ _)
   | (with_reducible exact LeO.refl _)
   | (with_reducible exact LeO.none _)
   | (with_reducible refine LeO.ite ?_ ?_)
   | (with_reducible refine LeO.bind ?_ (fun _ => ?_))
   | exact ih0 _ _ _ _ _
   | exact ih1 _ _ _ _ _ _
   | exact ih2 _ _ _ _ _ _ _ _
   | exact spec_DependsOk.mono _ _
   | exact spec_SuccessorsOf.mono _ _ _
   | exact spec_l10Depths.mono _ _ _
   | exact LeO.none _
   | refine LeO.ite ?_ ?_
   | refine LeO.bind ?_ (fun _ => ?_)
  ·intro y0 y1 y2 y3 y4 y5
   unfold spec_ShortestCycle.l1
   repeat' first
   | (with_reducible exact ih0 _ _ _ _ _)
   | (with_reducible exact ih1 _ _ _ _ _ _)
   | (with_reducible exact ih2 _ _ _ _ _ _ _ _)
   | (with_reducible exact spec_DependsOk.mono _ _)
   | (with_reducible exact spec_SuccessorsOf.mono _ _ _)
   | (with_reducible exact spec_l10Depths.mono _ _ _)
   | (with_reducible exact LeO.refl _)
   | (with_reducible exact LeO.none _)
   | (with_reducible refine LeO.ite ?_ ?_)
   | (with_reducible refine LeO.bind ?_ (fun _ => ?_))
   | exact ih0 _ _ _ _ _
   | exact ih1 _ _ _ _ _ _
   | exact ih2 _ _ _ _ _ _ _ _
   | exact spec_DependsOk.mono _ _
   | exact spec_SuccessorsOf.mono _ _ _
   | exact spec_l10Depths.mono _ _ _
   | exact LeO.none _
   | refine LeO.ite ?_ ?_
   | refine LeO.bind ?_ (fun _ => ?_)
  ·intro y0 y1 y2 y3 y4 y5 y6 y7
   unfold spec_ShortestCycle.l2
   repeat' first
   | (with_reducible exact ih0 _ _ _ _ _)
   | (with_reducible exact ih1 _ _ _ _ _ _)
   | (with_reducible exact ih2 _ _ _ _ _ _ _ _)
   | (with_reducible exact spec_DependsOk.mono _ _)
   | (with_reducible exact spec_SuccessorsOf.mono _ _ _)
   | (with_reducible exact spec_l10Depths.mono _ _ _)
   | (with_reducible exact LeO.refl _)
   | (with_reducible exact LeO.none _)
   | (with_reducible refine LeO.ite ?_ ?_)
   | (with_reducible refine LeO.bind ?_ (fun _ => ?_))
   | exact ih0 _ _ _ _ _
   | exact ih1 _ _ _ _ _ _
   | exact ih2 _ _ _ _ _ _ _ _
   | exact spec_DependsOk.mono _ _
   | exact spec_SuccessorsOf.mono _ _ _
   | exact spec_l10Depths.mono _ _ _
   | exact LeO.none _
   | refine LeO.ite ?_ ?_
   | refine LeO.bind ?_ (fun _ => ?_)
theorem spec_ShortestCycle.mono : ∀ a0 k, LeO (spec_ShortestCycle.f k a0) (spec_ShortestCycle.f (k + 1) a0) := by
 intro a0 k
 obtain ⟨ih0, ih1, ih2⟩ := spec_ShortestCycle.mono_l k
 unfold spec_ShortestCycle.f
 repeat' first
   | (with_reducible exact ih0 _ _ _ _ _)
   | (with_reducible exact ih1 _ _ _ _ _ _)
   | (with_reducible exact ih2 _ _ _ _ _ _ _ _)
   | (with_reducible exact spec_DependsOk.mono _ _)
   | (with_reducible exact spec_SuccessorsOf.mono _ _ _)
   | (with_reducible exact spec_l10Depths.mono _ _ _)
   | (with_reducible exact LeO.refl _)
   | (with_reducible exact LeO.none _)
   | (with_reducible refine LeO.ite ?_ ?_)
   | (with_reducible refine LeO.bind ?_ (fun _ => ?_))
   | exact ih0 _ _ _ _ _
   | exact ih1 _ _ _ _ _ _
   | exact ih2 _ _ _ _ _ _ _ _
   | exact spec_DependsOk.mono _ _
   | exact spec_SuccessorsOf.mono _ _ _
   | exact spec_l10Depths.mono _ _ _
   | exact LeO.none _
   | refine LeO.ite ?_ ?_
   | refine LeO.bind ?_ (fun _ => ?_)
theorem spec_ShortestCycle.e0 {P : Prop} (h : P := by
 go_wp2_with (first | ((with_reducible refine gate_callee (f := 48) rfl ?_); refine gm_ (some 24) Try.func48 #[.slice A0 l0.length c0, .int .i64 x6_1] rfl ?_; (with_reducible refine (spec_SuccessorsOf.calls k1 _ _ l0 x6_1 t212 _ ?side1 HC0.out A8.out).mono ?_); (case side1 => exact cb_ HR0.out HB.out); rintro e w_0 ⟨v213, rfl, ho0, hb⟩; refine ⟨_, rfl, ?_⟩; have HO214 := Aside0.mk (Kd.R_lower (Kd.R_new' ho0 (rl_ HO_3.out)) (bz_ HB.out)); replace HO_3 := Aside0.mk (Kd.R_elder' (ra_ HO_3.out) (Kd.R_base ho0) hb); replace HB := Aside0.mk (bs_ HB.out hb); (try clear hb); (try clear ho0); obtain ⟨Ao11, co11, eo11⟩ := Kd.R_slice HO214.out; subst eo11) | ((with_reducible refine gate_callee (f := 48) rfl ?_); refine gm_ (some 24) Try.func48 #[.slice A0 l0.length c0, .int .i64 x6_1] rfl ?_; (with_reducible refine (spec_SuccessorsOf.calls k1 _ _ l0 x6_1 t212 _ ?side1 HC0.out A8.out).mono ?_); (case side1 => exact cb_ HR0.out HB.out); rintro e w_0 ⟨v213, rfl, ho0, hb⟩; refine ⟨_, rfl, ?_⟩; have HO214 := Aside0.mk (Kd.R_lower (Kd.R_new' ho0 (rl_ HO_3.out)) (bz_ HB.out)); replace HO_3 := Aside0.mk (Kd.R_elder' (ra_ HO_3.out) (Kd.R_base ho0) hb); replace HB := Aside0.mk (bs_ HB.out hb); (try clear hb); (try clear ho0); obtain ⟨Ao27, co27, eo27⟩ := Kd.R_slice HO214.out; subst eo27) | ((with_reducible refine gate_callee (f := 39) rfl ?_); refine gm_ (some 29) Try.func39 #[.slice A0 l0.length c0, .int .i64 x6_1] rfl ?_; (with_reducible refine (spec_l10Depths.calls k1 _ _ l0 x6_1 t215 _ ?side1 HC0.out A12.out).mono ?_); (case side1 => exact cb_ HR0.out HB.out); rintro e w_0 ⟨v216, rfl, ho0, hb⟩; refine ⟨_, rfl, ?_⟩; have HO217 := Aside0.mk (Kd.R_lower (Kd.R_new' (Kd.R_new' ho0 (rl_ HO_3.out)) (rl_ HO214.out)) (bz_ HB.out)); replace HO_3 := Aside0.mk (Kd.R_elder' (ra_ HO_3.out) (Kd.R_base ho0) hb); replace HO214 := Aside0.mk (Kd.R_elder' (ra_ HO214.out) (Kd.R_base ho0) hb); replace HB := Aside0.mk (bs_ HB.out hb); (try clear hb); (try clear ho0); obtain ⟨Ao29, co29, eo29⟩ := Kd.R_slice HO217.out; subst eo29; have p218 : 0 ≤ (x6_1 : Int) := of_decide_eq_true dg_; have q218 : x6_1 < (t215.length : Int) := of_decide_eq_true dg_; obtain ⟨ad218, e218, hx218_0⟩ := Kd.at_int (Kd.R_reads' HO217.out).2.2 x6_1 p218 q218; cases e218; replace p218 := eq_true p218; replace q218 := eq_true q218) | ((with_reducible refine gate_callee (f := 48) rfl ?_); refine gm_ (some 24) Try.func48 #[.slice A0 l0.length c0, .int .i64 x6_1] rfl ?_; (with_reducible refine (spec_SuccessorsOf.calls k1 _ _ l0 x6_1 t212 _ ?side1 HC0.out A8.out).mono ?_); (case side1 => exact cb_ HR0.out HB.out); rintro e w_0 ⟨v213, rfl, ho0, hb⟩; refine ⟨_, rfl, ?_⟩; have HO214 := Aside0.mk (Kd.R_lower (Kd.R_new' ho0 (rl_ HO_3.out)) (bz_ HB.out)); replace HO_3 := Aside0.mk (Kd.R_elder' (ra_ HO_3.out) (Kd.R_base ho0) hb); replace HB := Aside0.mk (bs_ HB.out hb); (try clear hb); (try clear ho0); obtain ⟨Ao31, co31, eo31⟩ := Kd.R_slice HO214.out; subst eo31) | ((with_reducible refine gate_callee (f := 39) rfl ?_); refine gm_ (some 29) Try.func39 #[.slice A0 l0.length c0, .int .i64 x6_1] rfl ?_; (with_reducible refine (spec_l10Depths.calls k1 _ _ l0 x6_1 t215 _ ?side1 HC0.out A12.out).mono ?_); (case side1 => exact cb_ HR0.out HB.out); rintro e w_0 ⟨v216, rfl, ho0, hb⟩; refine ⟨_, rfl, ?_⟩; have HO217 := Aside0.mk (Kd.R_lower (Kd.R_new' (Kd.R_new' ho0 (rl_ HO_3.out)) (rl_ HO214.out)) (bz_ HB.out)); replace HO_3 := Aside0.mk (Kd.R_elder' (ra_ HO_3.out) (Kd.R_base ho0) hb); replace HO214 := Aside0.mk (Kd.R_elder' (ra_ HO214.out) (Kd.R_base ho0) hb); replace HB := Aside0.mk (bs_ HB.out hb); (try clear hb); (try clear ho0); obtain ⟨Ao33, co33, eo33⟩ := Kd.R_slice HO217.out; subst eo33; have p218 : 0 ≤ (x6_1 : Int) := of_decide_eq_true dg_; have q218 : x6_1 < (t215.length : Int) := of_decide_eq_true dg_; obtain ⟨ad218, e218, hx218_0⟩ := Kd.at_int (Kd.R_reads' HO217.out).2.2 x6_1 p218 q218; cases e218; replace p218 := eq_true p218; replace q218 := eq_true q218))
 go_roundg k1
 case measure => have := HK1.out; omega
 case rel => exact ⟨(x4_1), (x5_1), (wrap64 (x6_1 + 1)), ef_, ef_, ef_, H', ⟨by have := HK1.out; omega⟩, ⟨by (with_reducible repeat (first | apply Kd.R_alloc | apply Kd.R_drewN | apply Kd.R_drew)); exact Kd.R_mono HO_3.out (fun _ hk => trivial)⟩, ⟨bb_ HB.out⟩⟩) : P := h
theorem spec_ShortestCycle.e1 {P : Prop} (h : P := by
 go_wp2_with (first | ((with_reducible refine gate_callee (f := 48) rfl ?_); refine gm_ (some 24) Try.func48 #[.slice A0 l0.length c0, .int .i64 x6_1] rfl ?_; (with_reducible refine (spec_SuccessorsOf.calls k1 _ _ l0 x6_1 t212 _ ?side1 HC0.out A8.out).mono ?_); (case side1 => exact cb_ HR0.out HB.out); rintro e w_0 ⟨v213, rfl, ho0, hb⟩; refine ⟨_, rfl, ?_⟩; have HO214 := Aside0.mk (Kd.R_lower (Kd.R_new' ho0 (rl_ HO_3.out)) (bz_ HB.out)); replace HO_3 := Aside0.mk (Kd.R_elder' (ra_ HO_3.out) (Kd.R_base ho0) hb); replace HB := Aside0.mk (bs_ HB.out hb); (try clear hb); (try clear ho0); obtain ⟨Ao18, co18, eo18⟩ := Kd.R_slice HO214.out; subst eo18) | ((with_reducible refine gate_callee (f := 39) rfl ?_); refine gm_ (some 29) Try.func39 #[.slice A0 l0.length c0, .int .i64 x6_1] rfl ?_; (with_reducible refine (spec_l10Depths.calls k1 _ _ l0 x6_1 t215 _ ?side1 HC0.out A12.out).mono ?_); (case side1 => exact cb_ HR0.out HB.out); rintro e w_0 ⟨v216, rfl, ho0, hb⟩; refine ⟨_, rfl, ?_⟩; have HO217 := Aside0.mk (Kd.R_lower (Kd.R_new' (Kd.R_new' ho0 (rl_ HO_3.out)) (rl_ HO214.out)) (bz_ HB.out)); replace HO_3 := Aside0.mk (Kd.R_elder' (ra_ HO_3.out) (Kd.R_base ho0) hb); replace HO214 := Aside0.mk (Kd.R_elder' (ra_ HO214.out) (Kd.R_base ho0) hb); replace HB := Aside0.mk (bs_ HB.out hb); (try clear hb); (try clear ho0); obtain ⟨Ao20, co20, eo20⟩ := Kd.R_slice HO217.out; subst eo20; have p218 : 0 ≤ (x6_1 : Int) := of_decide_eq_true dg_; have q218 : x6_1 < (t215.length : Int) := of_decide_eq_true dg_; obtain ⟨ad218, e218, hx218_0⟩ := Kd.at_int (Kd.R_reads' HO217.out).2.2 x6_1 p218 q218; cases e218; replace p218 := eq_true p218; replace q218 := eq_true q218) | ((with_reducible refine gate_callee (f := 48) rfl ?_); refine gm_ (some 24) Try.func48 #[.slice A0 l0.length c0, .int .i64 x6_1] rfl ?_; (with_reducible refine (spec_SuccessorsOf.calls k1 _ _ l0 x6_1 t212 _ ?side1 HC0.out A8.out).mono ?_); (case side1 => exact cb_ HR0.out HB.out); rintro e w_0 ⟨v213, rfl, ho0, hb⟩; refine ⟨_, rfl, ?_⟩; have HO214 := Aside0.mk (Kd.R_lower (Kd.R_new' ho0 (rl_ HO_3.out)) (bz_ HB.out)); replace HO_3 := Aside0.mk (Kd.R_elder' (ra_ HO_3.out) (Kd.R_base ho0) hb); replace HB := Aside0.mk (bs_ HB.out hb); (try clear hb); (try clear ho0); obtain ⟨Ao23, co23, eo23⟩ := Kd.R_slice HO214.out; subst eo23) | ((with_reducible refine gate_callee (f := 39) rfl ?_); refine gm_ (some 29) Try.func39 #[.slice A0 l0.length c0, .int .i64 x6_1] rfl ?_; (with_reducible refine (spec_l10Depths.calls k1 _ _ l0 x6_1 t215 _ ?side1 HC0.out A12.out).mono ?_); (case side1 => exact cb_ HR0.out HB.out); rintro e w_0 ⟨v216, rfl, ho0, hb⟩; refine ⟨_, rfl, ?_⟩; have HO217 := Aside0.mk (Kd.R_lower (Kd.R_new' (Kd.R_new' ho0 (rl_ HO_3.out)) (rl_ HO214.out)) (bz_ HB.out)); replace HO_3 := Aside0.mk (Kd.R_elder' (ra_ HO_3.out) (Kd.R_base ho0) hb); replace HO214 := Aside0.mk (Kd.R_elder' (ra_ HO214.out) (Kd.R_base ho0) hb); replace HB := Aside0.mk (bs_ HB.out hb); (try clear hb); (try clear ho0); obtain ⟨Ao25, co25, eo25⟩ := Kd.R_slice HO217.out; subst eo25; have p218 : 0 ≤ (x6_1 : Int) := of_decide_eq_true dg_; have q218 : x6_1 < (t215.length : Int) := of_decide_eq_true dg_; obtain ⟨ad218, e218, hx218_0⟩ := Kd.at_int (Kd.R_reads' HO217.out).2.2 x6_1 p218 q218; cases e218; replace p218 := eq_true p218; replace q218 := eq_true q218))
 go_roundg k1
 case measure => have := HK1.out; omega
 case rel => exact ⟨(rd t215 x6_1), (x6_1), (wrap64 (x6_1 + 1)), ef_, ef_, ef_, H', ⟨by have := HK1.out; omega⟩, ⟨by (with_reducible repeat (first | apply Kd.R_alloc | apply Kd.R_drewN | apply Kd.R_drew)); exact Kd.R_mono HO_3.out (fun _ hk => trivial)⟩, ⟨bb_ HB.out⟩⟩) : P := h
theorem spec_ShortestCycle.e2 {P : Prop} (h : P := by
 go_wp2_with (first | (go_at_call 39; (with_reducible refine (spec_l10Depths.calls k3 _ _ l0 (rd t222 x11_3) t229 _ ?side1 HC0.out A45.out).mono ?_); (case side1 => exact cb_ HR0.out HB.out); rintro e w_0 ⟨v230, rfl, ho0, hb⟩; have HO231 := Aside0.mk (Kd.R_lower (Kd.R_new' (Kd.R_new' ho0 (rl_ HO_3.out)) (rl_ HO_10.out)) (bz_ HB.out)); replace HO_3 := Aside0.mk (Kd.R_elder' (ra_ HO_3.out) (Kd.R_base ho0) hb); replace HO_10 := Aside0.mk (Kd.R_elder' (ra_ HO_10.out) (Kd.R_base ho0) hb); replace HB := Aside0.mk (bs_ HB.out hb); (try clear hb); (try clear ho0); obtain ⟨Ao51, co51, eo51⟩ := Kd.R_slice HO231.out; subst eo51; have p232 : 0 ≤ (x5_1 : Int) := of_decide_eq_true dg_; have q232 : x5_1 < (t229.length : Int) := of_decide_eq_true dg_; obtain ⟨ad232, e232, hx232_0⟩ := Kd.at_int (Kd.R_reads' HO231.out).2.2 x5_1 p232 q232; cases e232; replace p232 := eq_true p232; replace q232 := eq_true q232; have p233 : 0 ≤ (x11_3 : Int) := of_decide_eq_true dg_; have q233 : x11_3 < (t222.length : Int) := of_decide_eq_true dg_; obtain ⟨ad233, e233, hx233_0⟩ := Kd.at_int (Kd.R_reads' HO_10.out).2.2 x11_3 p233 q233; obtain rfl : ad225 = ad233 := (by injection e233); replace p233 := eq_true p233; replace q233 := eq_true q233) | (go_at_call 39; (with_reducible refine (spec_l10Depths.calls k3 _ _ l0 (rd t222 x11_3) t236 _ ?side1 HC0.out A60.out).mono ?_); (case side1 => exact cb_ HR0.out HB.out); rintro e w_0 ⟨v237, rfl, ho0, hb⟩; have HO238 := Aside0.mk (Kd.R_lower (Kd.R_new' (Kd.R_new' ho0 (rl_ HO_3.out)) (rl_ HO_10.out)) (bz_ HB.out)); replace HO_3 := Aside0.mk (Kd.R_elder' (ra_ HO_3.out) (Kd.R_base ho0) hb); replace HO_10 := Aside0.mk (Kd.R_elder' (ra_ HO_10.out) (Kd.R_base ho0) hb); replace HB := Aside0.mk (bs_ HB.out hb); (try clear hb); (try clear ho0); obtain ⟨Ao66, co66, eo66⟩ := Kd.R_slice HO238.out; subst eo66; have p239 : 0 ≤ (x5_1 : Int) := of_decide_eq_true dg_; have q239 : x5_1 < (t236.length : Int) := of_decide_eq_true dg_; obtain ⟨ad239, e239, hx239_0⟩ := Kd.at_int (Kd.R_reads' HO238.out).2.2 x5_1 p239 q239; cases e239; replace p239 := eq_true p239; replace q239 := eq_true q239; have p240 : 0 ≤ (x11_3 : Int) := of_decide_eq_true dg_; have q240 : x11_3 < (t222.length : Int) := of_decide_eq_true dg_; obtain ⟨ad240, e240, hx240_0⟩ := Kd.at_int (Kd.R_reads' HO_10.out).2.2 x11_3 p240 q240; obtain rfl : ad234 = ad240 := (by injection e240); replace p240 := eq_true p240; replace q240 := eq_true q240))
 go_roundg k3
 case measure => have := HK1.out; have := HK2.out; have := HK3.out; omega
 case rel => exact ⟨(y219), (rd t222 x11_3), (wrap64 (x9_2 + 1)), ef_, ef_, H', ⟨by have := HK1.out; have := HK2.out; have := HK3.out; omega⟩, ⟨by (with_reducible repeat (first | apply Kd.R_alloc | apply Kd.R_drewN | apply Kd.R_drew)); exact Kd.R_mono HO_3.out (fun _ hk => trivial)⟩, ⟨bb_ HB.out⟩⟩) : P := h
theorem spec_ShortestCycle.e3 {P : Prop} (h : P := by
 go_wp2_with (first | (go_at_call 39; (with_reducible refine (spec_l10Depths.calls k3 _ _ l0 (rd t222 x11_3) t229 _ ?side1 HC0.out A45.out).mono ?_); (case side1 => exact cb_ HR0.out HB.out); rintro e w_0 ⟨v230, rfl, ho0, hb⟩; have HO231 := Aside0.mk (Kd.R_lower (Kd.R_new' (Kd.R_new' ho0 (rl_ HO_3.out)) (rl_ HO_10.out)) (bz_ HB.out)); replace HO_3 := Aside0.mk (Kd.R_elder' (ra_ HO_3.out) (Kd.R_base ho0) hb); replace HO_10 := Aside0.mk (Kd.R_elder' (ra_ HO_10.out) (Kd.R_base ho0) hb); replace HB := Aside0.mk (bs_ HB.out hb); (try clear hb); (try clear ho0); obtain ⟨Ao54, co54, eo54⟩ := Kd.R_slice HO231.out; subst eo54; have p232 : 0 ≤ (x5_1 : Int) := of_decide_eq_true dg_; have q232 : x5_1 < (t229.length : Int) := of_decide_eq_true dg_; obtain ⟨ad232, e232, hx232_0⟩ := Kd.at_int (Kd.R_reads' HO231.out).2.2 x5_1 p232 q232; cases e232; replace p232 := eq_true p232; replace q232 := eq_true q232) | (go_at_call 39; (with_reducible refine (spec_l10Depths.calls k3 _ _ l0 (rd t222 x11_3) t236 _ ?side1 HC0.out A60.out).mono ?_); (case side1 => exact cb_ HR0.out HB.out); rintro e w_0 ⟨v237, rfl, ho0, hb⟩; have HO238 := Aside0.mk (Kd.R_lower (Kd.R_new' (Kd.R_new' ho0 (rl_ HO_3.out)) (rl_ HO_10.out)) (bz_ HB.out)); replace HO_3 := Aside0.mk (Kd.R_elder' (ra_ HO_3.out) (Kd.R_base ho0) hb); replace HO_10 := Aside0.mk (Kd.R_elder' (ra_ HO_10.out) (Kd.R_base ho0) hb); replace HB := Aside0.mk (bs_ HB.out hb); (try clear hb); (try clear ho0); obtain ⟨Ao69, co69, eo69⟩ := Kd.R_slice HO238.out; subst eo69; have p239 : 0 ≤ (x5_1 : Int) := of_decide_eq_true dg_; have q239 : x5_1 < (t236.length : Int) := of_decide_eq_true dg_; obtain ⟨ad239, e239, hx239_0⟩ := Kd.at_int (Kd.R_reads' HO238.out).2.2 x5_1 p239 q239; cases e239; replace p239 := eq_true p239; replace q239 := eq_true q239))
 go_roundg k3
 case measure => have := HK1.out; have := HK2.out; have := HK3.out; omega
 case rel => exact ⟨(x8_3), (wrap64 (x11_3 + 1)), ef_, ef_, H', ⟨by have := HK1.out; have := HK2.out; have := HK3.out; omega⟩, ⟨by (with_reducible repeat (first | apply Kd.R_alloc | apply Kd.R_drewN | apply Kd.R_drew)); exact Kd.R_mono HO_3.out (fun _ hk => hk.1)⟩, ⟨by (with_reducible repeat (first | apply Kd.R_alloc | apply Kd.R_drewN | apply Kd.R_drew)); exact Kd.R_mono HO_10.out (fun _ hk => hk.1)⟩, ⟨bb_ HB.out⟩⟩) : P := h
theorem spec_ShortestCycle.e4 {P : Prop} (h : P := by
 go_wp2
 go_roundg k3
 case measure => have := HK1.out; have := HK2.out; have := HK3.out; omega
 case rel => exact ⟨(x8_3), (wrap64 (x11_3 + 1)), ef_, ef_, H', ⟨by have := HK1.out; have := HK2.out; have := HK3.out; omega⟩, ⟨by (with_reducible repeat (first | apply Kd.R_alloc | apply Kd.R_drewN | apply Kd.R_drew)); exact HO_3.out⟩, ⟨by (with_reducible repeat (first | apply Kd.R_alloc | apply Kd.R_drewN | apply Kd.R_drew)); exact HO_10.out⟩, ⟨bb_ HB.out⟩⟩) : P := h
set_option maxHeartbeats 8000000 in
set_option maxRecDepth 100000 in
theorem spec_ShortestCycle.calls (k : Nat) (A0 : Option Addr) (c0 : Nat) (l0 : List (S44)) (r : List Int) (w : World) (hr0 : Kd.C k44 w A0 l0.length l0) (hc0 : l0.length ≤ c0) (h : spec_ShortestCycle.f k l0 = some r) :
  Calls Try.prog 23 #[.slice A0 l0.length c0] w fun e w' => ∃ v0_ : Value, e = .returned (v0_) ∧ Kd.R (Kd.int .i64) 3 w' w.heap.size (fun _ => True) v0_ r ∧ Below w.heap.size w w' := by
 have HR0 := Aside0.mk hr0
 have HC0 := Aside0.mk hc0
 clear hr0 hc0
 have HB := Aside0.mk (Below.refl w.heap.size w)
 have H : ((some (([] : List Int) : List Int)).bind fun y208 => ((spec_DependsOk.f k l0).bind fun t211 => (if t211 = true then (spec_ShortestCycle.l0 k l0 y208 0 (-1) 0) else (some y208)))) = some r := h
 clear h
 obtain ⟨y208, hy208⟩ : ∃ y_ : List Int, y_ = (([] : List Int)) := ⟨_, rfl⟩
 replace H : ((spec_DependsOk.f k l0).bind fun t211 => (if t211 = true then (spec_ShortestCycle.l0 k l0 y208 0 (-1) 0) else (some y208))) = some r := by first | (rw [hy208]; with_reducible exact H) | (have H2_ := (Option.bind_some _ _).symm.trans H; rw [hy208]; with_reducible exact H2_) | (have H2_ := (Option.bind_some _ _).symm.trans H; with_reducible exact H2_) | with_reducible exact H | (rw [hy208]; exact H) | exact H
 have Ny208 := Aside0.mk hy208
 clear hy208
 replace H := Option.bind_eq_some_iff.mp H
 obtain ⟨t211, A20, H⟩ := H
 try dsimp only at H
 have A2 := Aside0.mk A20
 clear A20
 by_cases c3 : t211 = true
 ·subst c3
  rw [if_pos rfl] at H
  have H' := Aside0.mk H
  clear H
  go_enter Try.func23, Try.ntmps23
  go_wp2_with (first | ((with_reducible refine gate_dst (N := 13) rfl ?_); refine Kd.R_lit (Kd.int .i64) _ 3 ?hg (N := 13) ?hd (xs := ([] : List Int)) (inner := []) (ok := fun _ => True) (okp := fun _ => True) ?hr ?hp (fun _ hk => hk) trivial (Below.refl _ _) (Nat.le_refl _) (by simp) ?_; (case hd => rfl); (case hg => rfl); (case hr => first | (go_simp; done) | (go_simp; rfl)); (case hp => exact (Reps.none _ _)); intro v209 w4 ho5 hb hg_ hnew_; clear hg_ hnew_; (first | rw [← Ny208.out] at ho5 | (simp only [Int.reduceToNat] at ho5; rw [← Ny208.out] at ho5)); have HO210 := Aside0.mk (Kd.R_lower ho5 (bz_ HB.out)); replace HB := Aside0.mk (bs_ HB.out hb); clear hb ho5) | ((with_reducible refine gate_callee (f := 37) rfl ?_); refine gm_ (some 15) Try.func37 #[.slice A0 l0.length c0] rfl ?_; (with_reducible refine (spec_DependsOk.calls k _ _ l0 true _ ?side1 HC0.out A2.out).mono ?_); (case side1 => exact cb_ HR0.out HB.out); rintro e w6 ⟨rfl, hb⟩; refine ⟨_, rfl, ?_⟩; replace HO210 := Aside0.mk (Kd.R_below (ra_ HO210.out) hb); replace HB := Aside0.mk (bs_ HB.out hb); (try clear hb)))
  go_loopg [4, 5, 6] k (fun kq v4 v5 v6 w' => ∃ (x4_1 : Int) (x5_1 : Int) (x6_1 : Int), v4 = .int .i64 x4_1 ∧ v5 = .int .i64 x5_1 ∧ v6 = .int .i64 x6_1 ∧ Aside0 (spec_ShortestCycle.l0 kq l0 y208 x4_1 x5_1 x6_1 = some r) ∧ Aside0 (kq ≤ k) ∧ Aside0 (Kd.R (Kd.int .i64) 3 w' w.heap.size (fun _ => True) v209 y208) ∧ Aside0 (Below w.heap.size w w'))
  case atStart => exact ⟨(0), ((-1)), (0), ef_, ef_, ef_, H', ⟨Nat.le_refl _⟩, ⟨by (with_reducible repeat (first | apply Kd.R_alloc | apply Kd.R_drewN | apply Kd.R_drew)); exact HO210.out⟩, ⟨bb_ HB.out⟩⟩
  case round =>
   clear H'
   try clear c3
   obtain ⟨x4_1, x5_1, x6_1, rfl, rfl, rfl, HA, HK1, HO_3, HB⟩ := hrel
   cases gk with
   | zero => exact absurd HA.out (by simp [spec_ShortestCycle.l0])
   | succ k1 =>
    have H := HA.out
    clear HA
    simp only [spec_ShortestCycle.l0] at H
    by_cases c7 : x6_1 < 128
    ·rw [if_pos c7] at H
     have c7b0 : decide (x6_1 < 128) = true := decide_eq_true c7
     clear c7
     replace H := Option.bind_eq_some_iff.mp H
     obtain ⟨t212, A80, H⟩ := H
     try dsimp only at H
     have A8 := Aside0.mk A80
     clear A80
     by_cases c9 : (t212.length : Int) = 0
     ·rw [if_pos c9] at H
      have c9b0 : ((t212.length : Int) == 0) = true := beq_iff_eq.mpr c9
      have c9b1 : ((t212.length : Int) != 0) = false := bne_eq_false_iff_eq.mpr c9
      clear c9
      have H' := Aside0.mk H
      clear H
      exact spec_ShortestCycle.e0
     ·rw [if_neg c9] at H
      have c9b0 : ((t212.length : Int) == 0) = false := beq_eq_false_iff_ne.mpr c9
      have c9b1 : ((t212.length : Int) != 0) = true := bne_iff_ne.mpr c9
      have c9b2 : ¬ (t212 = []) := fun h_ => c9 (by rw [h_]; rfl)
      replace H := Option.bind_eq_some_iff.mp H
      obtain ⟨t215, A120, H⟩ := H
      try dsimp only at H
      have A12 := Aside0.mk A120
      clear A120
      by_cases c13 : 0 ≤ x6_1
      ·rw [if_pos c13] at H
       have c13b0 : decide (0 ≤ x6_1) = true := decide_eq_true c13
       clear c13
       by_cases c14 : x6_1 < (t215.length : Int)
       ·rw [if_pos c14] at H
        have c14b0 : decide (x6_1 < (t215.length : Int)) = true := decide_eq_true c14
        clear c14
        by_cases c15 : (rd t215 x6_1) > 0
        ·rw [if_pos c15] at H
         have c15b0 : decide (0 < (rd t215 x6_1)) = true := decide_eq_true c15
         clear c15
         by_cases c16 : x4_1 = 0
         ·rw [if_pos c16] at H
          have c16b0 : (x4_1 == 0) = true := beq_iff_eq.mpr c16
          have c16b1 : (x4_1 != 0) = false := bne_eq_false_iff_eq.mpr c16
          clear c16
          have H' := Aside0.mk H
          clear H
          exact spec_ShortestCycle.e1
         ·rw [if_neg c16] at H
          have c16b0 : (x4_1 == 0) = false := beq_eq_false_iff_ne.mpr c16
          have c16b1 : (x4_1 != 0) = true := bne_iff_ne.mpr c16
          by_cases c21 : (rd t215 x6_1) < x4_1
          ·rw [if_pos c21] at H
           have c21b0 : decide ((rd t215 x6_1) < x4_1) = true := decide_eq_true c21
           clear c21
           have H' := Aside0.mk H
           clear H
           exact spec_ShortestCycle.e1
          ·rw [if_neg c21] at H
           have c21b0 : decide ((rd t215 x6_1) < x4_1) = false := decide_eq_false c21
           clear c21
           have H' := Aside0.mk H
           clear H
           exact spec_ShortestCycle.e0
        ·rw [if_neg c15] at H
         have c15b0 : decide (0 < (rd t215 x6_1)) = false := decide_eq_false c15
         clear c15
         have H' := Aside0.mk H
         clear H
         exact spec_ShortestCycle.e0
       ·rw [if_neg c14] at H
        exact absurd H (by simp)
      ·rw [if_neg c13] at H
       exact absurd H (by simp)
    ·rw [if_neg c7] at H
     have c7b0 : decide (x6_1 < 128) = false := decide_eq_false c7
     clear c7
     have H' := Aside0.mk H
     clear H
     go_wp2
     go_loopg [3, 8, 9] k1 (fun kq v3 v8 v9 w' => ∃ (x3_2 : List Int) (x8_2 : Int) (x9_2 : Int), v8 = .int .i64 x8_2 ∧ v9 = .int .i64 x9_2 ∧ Aside0 (spec_ShortestCycle.l1 kq l0 x3_2 x4_1 x5_1 x8_2 x9_2 = some r) ∧ Aside0 (kq ≤ k1) ∧ Aside0 (Kd.R (Kd.int .i64) 3 w' w.heap.size (fun _ => True) v3 x3_2) ∧ Aside0 (Below w.heap.size w w'))
     case atStart => exact ⟨(y208), (x5_1), (0), ef_, ef_, H', ⟨Nat.le_refl _⟩, ⟨by (with_reducible repeat (first | apply Kd.R_alloc | apply Kd.R_drewN | apply Kd.R_drew)); exact HO_3.out⟩, ⟨bb_ HB.out⟩⟩
     case round =>
      clear H'
      try clear c3
      try clear c7
      try clear c7b0
      obtain ⟨x3_2, x8_2, x9_2, rfl, rfl, HA, HK2, HO_3, HB⟩ := hrel
      cases gk with
      | zero => exact absurd HA.out (by simp [spec_ShortestCycle.l1])
      | succ k2 =>
       have H := HA.out
       clear HA
       simp only [spec_ShortestCycle.l1] at H
       by_cases c34 : x9_2 < x4_1
       ·rw [if_pos c34] at H
        have c34b0 : decide (x9_2 < x4_1) = true := decide_eq_true c34
        clear c34
        by_cases c35 : x3_2.length < 17592186044416
        ·rw [if_pos c35] at H
         have LMc35 := Aside0.mk c35
         clear c35
         obtain ⟨y219, hy219⟩ : ∃ y_ : List Int, y_ = (x3_2 ++ [x8_2]) := ⟨_, rfl⟩
         replace H : ((spec_SuccessorsOf.f k2 l0 x8_2).bind fun t222 => (spec_ShortestCycle.l2 k2 l0 y219 x4_1 x5_1 x8_2 x9_2 t222 0)) = some r := by first | (rw [hy219]; with_reducible exact H) | (have H2_ := (Option.bind_some _ _).symm.trans H; rw [hy219]; with_reducible exact H2_) | (have H2_ := (Option.bind_some _ _).symm.trans H; with_reducible exact H2_) | with_reducible exact H | (rw [hy219]; exact H) | exact H
         have Ny219 := Aside0.mk hy219
         clear hy219
         replace H := Option.bind_eq_some_iff.mp H
         obtain ⟨t222, A360, H⟩ := H
         try dsimp only at H
         have A36 := Aside0.mk A360
         clear A360
         have H' := Aside0.mk H
         clear H
         go_wp2_with (first | ((with_reducible refine gate_builtin (b := .append) (xs := #[.tmp 52, .tmp 54]) rfl ?_); at_builtin; refine Kd.R_append (Kd.int .i64) (w0 := w) w.heap.size rfl (.tmp 52) (.tmp 54) 26 3 (.int .i64 0) 8 rfl Try.underlying26 info3 rfl (by decide) (by omega) u3 x3_2 x8_2 [.int .i64 x8_2] (fun _ => True) (fun _ => False) rfl rfl ?aP (fun _ hk => hk.elim) ?aF ?aO ?aB ?aS ?aL ?_; (case aP => exact rfl); (case aB => exact (by repeat (first | (with_reducible first | exact HB.out | apply below_alloc | apply pw_below_drewN | apply below_drew1) | exact HB.out))); (case aF => exact (fun _ _ => trivial)); (case aO => exact (ra_ HO_3.out)); (case aS => exact (bz_ HB.out)); (case aL => have := LMc35.out; omega); intro v220 w37 ho hb hg hat; rw [← Ny219.out] at ho; have n0_ := Aside0.mk (hb); have n1_ := Aside0.mk (ho); clear HB; clear HO_3; have HB := n0_; have HO221 := n1_; clear n0_ n1_; clear ho hb hg hat) | ((with_reducible refine gate_callee (f := 48) rfl ?_); refine gm_ (some 58) Try.func48 #[.slice A0 l0.length c0, .int .i64 x8_2] rfl ?_; (with_reducible refine (spec_SuccessorsOf.calls k2 _ _ l0 x8_2 t222 _ ?side1 HC0.out A36.out).mono ?_); (case side1 => exact cb_ HR0.out HB.out); rintro e w38 ⟨v223, rfl, ho0, hb⟩; refine ⟨_, rfl, ?_⟩; have HO224 := Aside0.mk (Kd.R_lower (Kd.R_new' ho0 (rl_ HO221.out)) (bz_ HB.out)); replace HO221 := Aside0.mk (Kd.R_elder' (ra_ HO221.out) (Kd.R_base ho0) hb); replace HB := Aside0.mk (bs_ HB.out hb); (try clear hb); (try clear ho0)))
         go_loopg [8, 11] k2 (fun kq v8 v11 w' => ∃ (x8_3 : Int) (x11_3 : Int), v8 = .int .i64 x8_3 ∧ v11 = .int .i64 x11_3 ∧ Aside0 (spec_ShortestCycle.l2 kq l0 y219 x4_1 x5_1 x8_3 x9_2 t222 x11_3 = some r) ∧ Aside0 (kq ≤ k2) ∧ Aside0 (Kd.R (Kd.int .i64) 3 w' w.heap.size (fun k_ => some k_ ≠ (v223 : Value).ownBlock) v220 y219) ∧ Aside0 (Kd.R (Kd.int .i64) 3 w' w.heap.size (fun k_ => some k_ ≠ (v220 : Value).ownBlock) v223 t222) ∧ Aside0 (Below w.heap.size w w'))
         case atStart => exact ⟨(x8_2), (0), ef_, ef_, H', ⟨Nat.le_refl _⟩, ⟨by (with_reducible repeat (first | apply Kd.R_alloc | apply Kd.R_drewN | apply Kd.R_drew)); exact Kd.R_mono HO221.out (fun _ hk => hk.2)⟩, ⟨by (with_reducible repeat (first | apply Kd.R_alloc | apply Kd.R_drewN | apply Kd.R_drew)); exact Kd.R_mono HO224.out (fun _ hk => hk.2)⟩, ⟨bb_ HB.out⟩⟩
         case round =>
          clear H'
          try clear c3
          try clear c7
          try clear c7b0
          try clear c34
          try clear c34b0
          try clear c35
          obtain ⟨x8_3, x11_3, rfl, rfl, HA, HK3, HO_3, HO_10, HB⟩ := hrel
          cases gk with
          | zero => exact absurd HA.out (by simp [spec_ShortestCycle.l2])
          | succ k3 =>
           have H := HA.out
           clear HA
           simp only [spec_ShortestCycle.l2] at H
           by_cases c39 : x11_3 < (t222.length : Int)
           ·rw [if_pos c39] at H
            have c39b0 : decide (x11_3 < (t222.length : Int)) = true := decide_eq_true c39
            clear c39
            by_cases c40 : (wrap64 ((wrap64 (x4_1 - x9_2)) - 1)) = 0
            ·rw [if_pos c40] at H
             have c40b0 : ((wrap64 ((wrap64 (x4_1 - x9_2)) - 1)) == 0) = true := beq_iff_eq.mpr c40
             have c40b1 : ((wrap64 ((wrap64 (x4_1 - x9_2)) - 1)) != 0) = false := bne_eq_false_iff_eq.mpr c40
             clear c40
             by_cases c41 : 0 ≤ x11_3
             ·rw [if_pos c41] at H
              have c41b0 : decide (0 ≤ x11_3) = true := decide_eq_true c41
              clear c41
              by_cases c42 : (rd t222 x11_3) = x5_1
              ·rw [if_pos c42] at H
               have c42b0 : ((rd t222 x11_3) == x5_1) = true := beq_iff_eq.mpr c42
               have c42b1 : ((rd t222 x11_3) != x5_1) = false := bne_eq_false_iff_eq.mpr c42
               clear c42
               have H' := Aside0.mk H
               clear H
               obtain ⟨Ao43, co43, eo43⟩ := Kd.R_slice HO_10.out
               subst eo43
               have p225 : 0 ≤ (x11_3 : Int) := of_decide_eq_true dg_
               have q225 : x11_3 < (t222.length : Int) := of_decide_eq_true dg_
               obtain ⟨ad225, e225, hx225_0⟩ := Kd.at_int (Kd.R_reads' HO_10.out).2.2 x11_3 p225 q225
               cases e225
               replace p225 := eq_true p225
               replace q225 := eq_true q225
               have p226 : 0 ≤ (x11_3 : Int) := of_decide_eq_true dg_
               have q226 : x11_3 < (t222.length : Int) := of_decide_eq_true dg_
               obtain ⟨ad226, e226, hx226_0⟩ := Kd.at_int (Kd.R_reads' HO_10.out).2.2 x11_3 p226 q226
               obtain rfl : ad225 = ad226 := (by injection e226)
               replace p226 := eq_true p226
               replace q226 := eq_true q226
               exact spec_ShortestCycle.e2
              ·rw [if_neg c42] at H
               have c42b0 : ((rd t222 x11_3) == x5_1) = false := beq_eq_false_iff_ne.mpr c42
               have c42b1 : ((rd t222 x11_3) != x5_1) = true := bne_iff_ne.mpr c42
               by_cases c44 : (wrap64 ((wrap64 (x4_1 - x9_2)) - 1)) > 0
               ·rw [if_pos c44] at H
                have c44b0 : decide (0 < (wrap64 ((wrap64 (x4_1 - x9_2)) - 1))) = true := decide_eq_true c44
                clear c44
                replace H := Option.bind_eq_some_iff.mp H
                obtain ⟨t229, A450, H⟩ := H
                try dsimp only at H
                have A45 := Aside0.mk A450
                clear A450
                by_cases c46 : 0 ≤ x5_1
                ·rw [if_pos c46] at H
                 have c46b0 : decide (0 ≤ x5_1) = true := decide_eq_true c46
                 clear c46
                 by_cases c47 : x5_1 < (t229.length : Int)
                 ·rw [if_pos c47] at H
                  have c47b0 : decide (x5_1 < (t229.length : Int)) = true := decide_eq_true c47
                  clear c47
                  by_cases c48 : (rd t229 x5_1) = (wrap64 ((wrap64 (x4_1 - x9_2)) - 1))
                  ·rw [if_pos c48] at H
                   have c48b0 : ((rd t229 x5_1) == (wrap64 ((wrap64 (x4_1 - x9_2)) - 1))) = true := beq_iff_eq.mpr c48
                   have c48b1 : ((rd t229 x5_1) != (wrap64 ((wrap64 (x4_1 - x9_2)) - 1))) = false := bne_eq_false_iff_eq.mpr c48
                   clear c48
                   have H' := Aside0.mk H
                   clear H
                   obtain ⟨Ao49, co49, eo49⟩ := Kd.R_slice HO_10.out
                   subst eo49
                   have p225 : 0 ≤ (x11_3 : Int) := of_decide_eq_true dg_
                   have q225 : x11_3 < (t222.length : Int) := of_decide_eq_true dg_
                   obtain ⟨ad225, e225, hx225_0⟩ := Kd.at_int (Kd.R_reads' HO_10.out).2.2 x11_3 p225 q225
                   cases e225
                   replace p225 := eq_true p225
                   replace q225 := eq_true q225
                   have p227 : 0 ≤ (x11_3 : Int) := of_decide_eq_true dg_
                   have q227 : x11_3 < (t222.length : Int) := of_decide_eq_true dg_
                   obtain ⟨ad227, e227, hx227_0⟩ := Kd.at_int (Kd.R_reads' HO_10.out).2.2 x11_3 p227 q227
                   obtain rfl : ad225 = ad227 := (by injection e227)
                   replace p227 := eq_true p227
                   replace q227 := eq_true q227
                   have p228 : 0 ≤ (x11_3 : Int) := of_decide_eq_true dg_
                   have q228 : x11_3 < (t222.length : Int) := of_decide_eq_true dg_
                   obtain ⟨ad228, e228, hx228_0⟩ := Kd.at_int (Kd.R_reads' HO_10.out).2.2 x11_3 p228 q228
                   obtain rfl : ad225 = ad228 := (by injection e228)
                   replace p228 := eq_true p228
                   replace q228 := eq_true q228
                   exact spec_ShortestCycle.e2
                  ·rw [if_neg c48] at H
                   have c48b0 : ((rd t229 x5_1) == (wrap64 ((wrap64 (x4_1 - x9_2)) - 1))) = false := beq_eq_false_iff_ne.mpr c48
                   have c48b1 : ((rd t229 x5_1) != (wrap64 ((wrap64 (x4_1 - x9_2)) - 1))) = true := bne_iff_ne.mpr c48
                   have H' := Aside0.mk H
                   clear H
                   obtain ⟨Ao52, co52, eo52⟩ := Kd.R_slice HO_10.out
                   subst eo52
                   have p225 : 0 ≤ (x11_3 : Int) := of_decide_eq_true dg_
                   have q225 : x11_3 < (t222.length : Int) := of_decide_eq_true dg_
                   obtain ⟨ad225, e225, hx225_0⟩ := Kd.at_int (Kd.R_reads' HO_10.out).2.2 x11_3 p225 q225
                   cases e225
                   replace p225 := eq_true p225
                   replace q225 := eq_true q225
                   have p227 : 0 ≤ (x11_3 : Int) := of_decide_eq_true dg_
                   have q227 : x11_3 < (t222.length : Int) := of_decide_eq_true dg_
                   obtain ⟨ad227, e227, hx227_0⟩ := Kd.at_int (Kd.R_reads' HO_10.out).2.2 x11_3 p227 q227
                   obtain rfl : ad225 = ad227 := (by injection e227)
                   replace p227 := eq_true p227
                   replace q227 := eq_true q227
                   have p228 : 0 ≤ (x11_3 : Int) := of_decide_eq_true dg_
                   have q228 : x11_3 < (t222.length : Int) := of_decide_eq_true dg_
                   obtain ⟨ad228, e228, hx228_0⟩ := Kd.at_int (Kd.R_reads' HO_10.out).2.2 x11_3 p228 q228
                   obtain rfl : ad225 = ad228 := (by injection e228)
                   replace p228 := eq_true p228
                   replace q228 := eq_true q228
                   exact spec_ShortestCycle.e3
                 ·rw [if_neg c47] at H
                  exact absurd H (by simp)
                ·rw [if_neg c46] at H
                 exact absurd H (by simp)
               ·rw [if_neg c44] at H
                have c44b0 : decide (0 < (wrap64 ((wrap64 (x4_1 - x9_2)) - 1))) = false := decide_eq_false c44
                clear c44
                have H' := Aside0.mk H
                clear H
                obtain ⟨Ao55, co55, eo55⟩ := Kd.R_slice HO_10.out
                subst eo55
                have p225 : 0 ≤ (x11_3 : Int) := of_decide_eq_true dg_
                have q225 : x11_3 < (t222.length : Int) := of_decide_eq_true dg_
                obtain ⟨ad225, e225, hx225_0⟩ := Kd.at_int (Kd.R_reads' HO_10.out).2.2 x11_3 p225 q225
                cases e225
                replace p225 := eq_true p225
                replace q225 := eq_true q225
                exact spec_ShortestCycle.e4
             ·rw [if_neg c41] at H
              exact absurd H (by simp)
            ·rw [if_neg c40] at H
             have c40b0 : ((wrap64 ((wrap64 (x4_1 - x9_2)) - 1)) == 0) = false := beq_eq_false_iff_ne.mpr c40
             have c40b1 : ((wrap64 ((wrap64 (x4_1 - x9_2)) - 1)) != 0) = true := bne_iff_ne.mpr c40
             by_cases c56 : (wrap64 ((wrap64 (x4_1 - x9_2)) - 1)) > 0
             ·rw [if_pos c56] at H
              have c56b0 : decide (0 < (wrap64 ((wrap64 (x4_1 - x9_2)) - 1))) = true := decide_eq_true c56
              clear c56
              by_cases c57 : 0 ≤ x11_3
              ·rw [if_pos c57] at H
               have c57b0 : decide (0 ≤ x11_3) = true := decide_eq_true c57
               clear c57
               by_cases c58 : (rd t222 x11_3) = x5_1
               ·rw [if_pos c58] at H
                have c58b0 : ((rd t222 x11_3) == x5_1) = true := beq_iff_eq.mpr c58
                have c58b1 : ((rd t222 x11_3) != x5_1) = false := bne_eq_false_iff_eq.mpr c58
                clear c58
                have H' := Aside0.mk H
                clear H
                obtain ⟨Ao59, co59, eo59⟩ := Kd.R_slice HO_10.out
                subst eo59
                have p234 : 0 ≤ (x11_3 : Int) := of_decide_eq_true dg_
                have q234 : x11_3 < (t222.length : Int) := of_decide_eq_true dg_
                obtain ⟨ad234, e234, hx234_0⟩ := Kd.at_int (Kd.R_reads' HO_10.out).2.2 x11_3 p234 q234
                cases e234
                replace p234 := eq_true p234
                replace q234 := eq_true q234
                exact spec_ShortestCycle.e4
               ·rw [if_neg c58] at H
                have c58b0 : ((rd t222 x11_3) == x5_1) = false := beq_eq_false_iff_ne.mpr c58
                have c58b1 : ((rd t222 x11_3) != x5_1) = true := bne_iff_ne.mpr c58
                replace H := Option.bind_eq_some_iff.mp H
                obtain ⟨t236, A600, H⟩ := H
                try dsimp only at H
                have A60 := Aside0.mk A600
                clear A600
                by_cases c61 : 0 ≤ x5_1
                ·rw [if_pos c61] at H
                 have c61b0 : decide (0 ≤ x5_1) = true := decide_eq_true c61
                 clear c61
                 by_cases c62 : x5_1 < (t236.length : Int)
                 ·rw [if_pos c62] at H
                  have c62b0 : decide (x5_1 < (t236.length : Int)) = true := decide_eq_true c62
                  clear c62
                  by_cases c63 : (rd t236 x5_1) = (wrap64 ((wrap64 (x4_1 - x9_2)) - 1))
                  ·rw [if_pos c63] at H
                   have c63b0 : ((rd t236 x5_1) == (wrap64 ((wrap64 (x4_1 - x9_2)) - 1))) = true := beq_iff_eq.mpr c63
                   have c63b1 : ((rd t236 x5_1) != (wrap64 ((wrap64 (x4_1 - x9_2)) - 1))) = false := bne_eq_false_iff_eq.mpr c63
                   clear c63
                   have H' := Aside0.mk H
                   clear H
                   obtain ⟨Ao64, co64, eo64⟩ := Kd.R_slice HO_10.out
                   subst eo64
                   have p234 : 0 ≤ (x11_3 : Int) := of_decide_eq_true dg_
                   have q234 : x11_3 < (t222.length : Int) := of_decide_eq_true dg_
                   obtain ⟨ad234, e234, hx234_0⟩ := Kd.at_int (Kd.R_reads' HO_10.out).2.2 x11_3 p234 q234
                   cases e234
                   replace p234 := eq_true p234
                   replace q234 := eq_true q234
                   have p235 : 0 ≤ (x11_3 : Int) := of_decide_eq_true dg_
                   have q235 : x11_3 < (t222.length : Int) := of_decide_eq_true dg_
                   obtain ⟨ad235, e235, hx235_0⟩ := Kd.at_int (Kd.R_reads' HO_10.out).2.2 x11_3 p235 q235
                   obtain rfl : ad234 = ad235 := (by injection e235)
                   replace p235 := eq_true p235
                   replace q235 := eq_true q235
                   exact spec_ShortestCycle.e2
                  ·rw [if_neg c63] at H
                   have c63b0 : ((rd t236 x5_1) == (wrap64 ((wrap64 (x4_1 - x9_2)) - 1))) = false := beq_eq_false_iff_ne.mpr c63
                   have c63b1 : ((rd t236 x5_1) != (wrap64 ((wrap64 (x4_1 - x9_2)) - 1))) = true := bne_iff_ne.mpr c63
                   have H' := Aside0.mk H
                   clear H
                   obtain ⟨Ao67, co67, eo67⟩ := Kd.R_slice HO_10.out
                   subst eo67
                   have p234 : 0 ≤ (x11_3 : Int) := of_decide_eq_true dg_
                   have q234 : x11_3 < (t222.length : Int) := of_decide_eq_true dg_
                   obtain ⟨ad234, e234, hx234_0⟩ := Kd.at_int (Kd.R_reads' HO_10.out).2.2 x11_3 p234 q234
                   cases e234
                   replace p234 := eq_true p234
                   replace q234 := eq_true q234
                   have p235 : 0 ≤ (x11_3 : Int) := of_decide_eq_true dg_
                   have q235 : x11_3 < (t222.length : Int) := of_decide_eq_true dg_
                   obtain ⟨ad235, e235, hx235_0⟩ := Kd.at_int (Kd.R_reads' HO_10.out).2.2 x11_3 p235 q235
                   obtain rfl : ad234 = ad235 := (by injection e235)
                   replace p235 := eq_true p235
                   replace q235 := eq_true q235
                   exact spec_ShortestCycle.e3
                 ·rw [if_neg c62] at H
                  exact absurd H (by simp)
                ·rw [if_neg c61] at H
                 exact absurd H (by simp)
              ·rw [if_neg c57] at H
               exact absurd H (by simp)
             ·rw [if_neg c56] at H
              have c56b0 : decide (0 < (wrap64 ((wrap64 (x4_1 - x9_2)) - 1))) = false := decide_eq_false c56
              clear c56
              have H' := Aside0.mk H
              clear H
              obtain ⟨Ao70, co70, eo70⟩ := Kd.R_slice HO_10.out
              subst eo70
              exact spec_ShortestCycle.e4
           ·rw [if_neg c39] at H
            have c39b0 : decide (x11_3 < (t222.length : Int)) = false := decide_eq_false c39
            clear c39
            have H' := Aside0.mk H
            clear H
            obtain ⟨Ao71, co71, eo71⟩ := Kd.R_slice HO_10.out
            subst eo71
            go_wp2
            go_roundg k3
            case measure => have := HK1.out; have := HK2.out; have := HK3.out; omega
            case rel => exact ⟨(y219), (x8_3), (wrap64 (x9_2 + 1)), ef_, ef_, H', ⟨by have := HK1.out; have := HK2.out; have := HK3.out; omega⟩, ⟨by (with_reducible repeat (first | apply Kd.R_alloc | apply Kd.R_drewN | apply Kd.R_drew)); exact Kd.R_mono HO_3.out (fun _ hk => trivial)⟩, ⟨bb_ HB.out⟩⟩
        ·rw [if_neg c35] at H
         exact absurd H (by simp)
       ·rw [if_neg c34] at H
        have c34b0 : decide (x9_2 < x4_1) = false := decide_eq_false c34
        clear c34
        obtain rfl := Option.some.inj H
        go_wp2
        go_ret
        exact ⟨_, fin_, by (with_reducible repeat (first | apply Kd.R_alloc | apply Kd.R_drewN | apply Kd.R_drew)); exact HO_3.out, bb_ HB.out⟩
 ·replace c3 := Bool.eq_false_iff.mpr c3
  subst c3
  rw [if_neg (show ¬ (false = true) by decide)] at H
  obtain rfl := Option.some.inj H
  go_enter Try.func23, Try.ntmps23
  go_wp2_with (first | ((with_reducible refine gate_dst (N := 13) rfl ?_); refine Kd.R_lit (Kd.int .i64) _ 3 ?hg (N := 13) ?hd (xs := ([] : List Int)) (inner := []) (ok := fun _ => True) (okp := fun _ => True) ?hr ?hp (fun _ hk => hk) trivial (Below.refl _ _) (Nat.le_refl _) (by simp) ?_; (case hd => rfl); (case hg => rfl); (case hr => first | (go_simp; done) | (go_simp; rfl)); (case hp => exact (Reps.none _ _)); intro v209 w72 ho73 hb hg_ hnew_; clear hg_ hnew_; (first | rw [← Ny208.out] at ho73 | (simp only [Int.reduceToNat] at ho73; rw [← Ny208.out] at ho73)); have HO210 := Aside0.mk (Kd.R_lower ho73 (bz_ HB.out)); replace HB := Aside0.mk (bs_ HB.out hb); clear hb ho73) | ((with_reducible refine gate_callee (f := 37) rfl ?_); refine gm_ (some 15) Try.func37 #[.slice A0 l0.length c0] rfl ?_; (with_reducible refine (spec_DependsOk.calls k _ _ l0 false _ ?side1 HC0.out A2.out).mono ?_); (case side1 => exact cb_ HR0.out HB.out); rintro e w74 ⟨rfl, hb⟩; refine ⟨_, rfl, ?_⟩; replace HO210 := Aside0.mk (Kd.R_below (ra_ HO210.out) hb); replace HB := Aside0.mk (bs_ HB.out hb); (try clear hb)))
  go_ret
  exact ⟨_, fin_, by (with_reducible repeat (first | apply Kd.R_alloc | apply Kd.R_drewN | apply Kd.R_drew)); exact HO210.out, bb_ HB.out⟩

/-! ### laws_eqIntS: function 24 -/
def laws_eqIntS.l0 : Nat → List Int → List Int → Int → Option (Bool)
 | 0, _, _, _ => none
 | k + 1, x0, x1, x5 => if x5 < (x0.length : Int) then (if 0 ≤ x5 then (if x5 < (x1.length : Int) then (if (rd x0 x5) = (rd x1 x5) then (laws_eqIntS.l0 k x0 x1 (wrap64 (x5 + 1))) else (none)) else (none)) else (none)) else (some true)
def laws_eqIntS.f (k : Nat) (l0 : List Int) (l1 : List Int) : Option (Bool) := if (l0.length : Int) = (l1.length : Int) then (laws_eqIntS.l0 k l0 l1 0) else (none)
theorem laws_eqIntS.mono_l : ∀ k, (∀ y0 y1 y2, LeO (laws_eqIntS.l0 k y0 y1 y2) (laws_eqIntS.l0 (k + 1) y0 y1 y2))
 | 0 => fun _ _ _ r h => by simp [laws_eqIntS.l0] at h
 | k + 1 => by
  have ih0 := laws_eqIntS.mono_l k
  ·intro y0 y1 y2
   unfold laws_eqIntS.l0
   repeat' first
   | (with_reducible exact ih0 _ _ _)
   | (with_reducible exact LeO.refl _)
   | (with_reducible exact LeO.none _)
   | (with_reducible refine LeO.ite ?_ ?_)
   | (with_reducible refine LeO.bind ?_ (fun _ => ?_))
   | exact ih0 _ _ _
   | exact LeO.none _
   | refine LeO.ite ?_ ?_
   | refine LeO.bind ?_ (fun _ => ?_)
theorem laws_eqIntS.mono : ∀ a0 a1 k, LeO (laws_eqIntS.f k a0 a1) (laws_eqIntS.f (k + 1) a0 a1) := by
 intro a0 a1 k
 have ih0 := laws_eqIntS.mono_l k
 unfold laws_eqIntS.f
 repeat' first
   | (with_reducible exact ih0 _ _ _)
   | (with_reducible exact LeO.refl _)
   | (with_reducible exact LeO.none _)
   | (with_reducible refine LeO.ite ?_ ?_)
   | (with_reducible refine LeO.bind ?_ (fun _ => ?_))
   | exact ih0 _ _ _
   | exact LeO.none _
   | refine LeO.ite ?_ ?_
   | refine LeO.bind ?_ (fun _ => ?_)
set_option maxHeartbeats 8000000 in
set_option maxRecDepth 100000 in
theorem laws_eqIntS.calls (k : Nat) (A0 : Option Addr) (c0 : Nat) (l0 : List Int) (A1 : Option Addr) (c1 : Nat) (l1 : List Int) (r : Bool) (w : World) (hr0 : Kd.C (Kd.int .i64) w A0 l0.length l0) (hc0 : l0.length ≤ c0) (hr1 : Kd.C (Kd.int .i64) w A1 l1.length l1) (hc1 : l1.length ≤ c1) (h : laws_eqIntS.f k l0 l1 = some r) :
  Calls Try.prog 24 #[.slice A0 l0.length c0, .slice A1 l1.length c1] w fun e w' => e = .returned (.bool r) ∧ Drawn0 w w' := by
 have HR0 := Aside0.mk hr0
 have HC0 := Aside0.mk hc0
 clear hr0 hc0
 have HR1 := Aside0.mk hr1
 have HC1 := Aside0.mk hc1
 clear hr1 hc1
 have H : (if (l0.length : Int) = (l1.length : Int) then (laws_eqIntS.l0 k l0 l1 0) else (none)) = some r := h
 clear h
 by_cases c3 : (l0.length : Int) = (l1.length : Int)
 ·rw [if_pos c3] at H
  have c3b0 : ((l0.length : Int) == (l1.length : Int)) = true := beq_iff_eq.mpr c3
  have c3b1 : ((l0.length : Int) != (l1.length : Int)) = false := bne_eq_false_iff_eq.mpr c3
  have c3b2 : (l0.length == l1.length) = true := by first | simpa using c3 | (simp at c3 ⊢; omega)
  clear c3
  have H' := Aside0.mk H
  clear H
  go_enter Try.func24, Try.ntmps24
  go_wp2
  repeat (go_quiet (fail); try go_wp2)
  go_loopg [5] k (fun kq v5 w' => ∃ (x5_1 : Int), v5 = .int .i64 x5_1 ∧ Aside0 (laws_eqIntS.l0 kq l0 l1 x5_1 = some r) ∧ Aside0 (kq ≤ k) ∧ Drawn0 w w')
  case atStart => exact ⟨(0), ef_, H', ⟨Nat.le_refl _⟩, by repeat (first | exact Drawn0.refl _ | apply Drawn0.step)⟩
  case round =>
   clear H'
   try clear c3
   try clear c3b0
   try clear c3b1
   try clear c3b2
   obtain ⟨x5_1, rfl, HA, HK1, ⟨m1, rfl⟩⟩ := hrel
   cases gk with
   | zero => exact absurd HA.out (by simp [laws_eqIntS.l0])
   | succ k1 =>
    have H := HA.out
    clear HA
    simp only [laws_eqIntS.l0] at H
    by_cases c4 : x5_1 < (l0.length : Int)
    ·rw [if_pos c4] at H
     have c4b0 : decide (x5_1 < (l0.length : Int)) = true := decide_eq_true c4
     clear c4
     by_cases c5 : 0 ≤ x5_1
     ·rw [if_pos c5] at H
      have c5b0 : decide (0 ≤ x5_1) = true := decide_eq_true c5
      clear c5
      by_cases c6 : x5_1 < (l1.length : Int)
      ·rw [if_pos c6] at H
       have c6b0 : decide (x5_1 < (l1.length : Int)) = true := decide_eq_true c6
       clear c6
       by_cases c7 : (rd l0 x5_1) = (rd l1 x5_1)
       ·rw [if_pos c7] at H
        have c7b0 : ((rd l0 x5_1) == (rd l1 x5_1)) = true := beq_iff_eq.mpr c7
        have c7b1 : ((rd l0 x5_1) != (rd l1 x5_1)) = false := bne_eq_false_iff_eq.mpr c7
        clear c7
        have H' := Aside0.mk H
        clear H
        have p241 : 0 ≤ (x5_1 : Int) := of_decide_eq_true dg_
        have q241 : x5_1 < (l0.length : Int) := of_decide_eq_true dg_
        obtain ⟨ad241, e241, hx241_0⟩ := Kd.at_int HR0.out x5_1 p241 q241
        cases e241
        replace p241 := eq_true p241
        replace q241 := eq_true q241
        have p242 : 0 ≤ (x5_1 : Int) := of_decide_eq_true dg_
        have q242 : x5_1 < (l1.length : Int) := of_decide_eq_true dg_
        obtain ⟨ad242, e242, hx242_0⟩ := Kd.at_int HR1.out x5_1 p242 q242
        cases e242
        replace p242 := eq_true p242
        replace q242 := eq_true q242
        go_wp2
        repeat (go_quiet (fail); try go_wp2)
        go_roundg k1
        case measure => have := HK1.out; omega
        case rel => exact ⟨(wrap64 (x5_1 + 1)), ef_, H', ⟨by have := HK1.out; omega⟩, by repeat (first | exact Drawn0.refl _ | apply Drawn0.step)⟩
       ·rw [if_neg c7] at H
        exact absurd H (by simp)
      ·rw [if_neg c6] at H
       exact absurd H (by simp)
     ·rw [if_neg c5] at H
      exact absurd H (by simp)
    ·rw [if_neg c4] at H
     have c4b0 : decide (x5_1 < (l0.length : Int)) = false := decide_eq_false c4
     clear c4
     obtain rfl := Option.some.inj H
     go_wp2
     repeat (go_quiet (fail); try go_wp2)
     go_ret
     exact ⟨by first | rfl | (simp; done) | (simp [*]; done), by repeat (first | exact Drawn0.refl _ | apply Drawn0.step)⟩
 ·rw [if_neg c3] at H
  exact absurd H (by simp)

/-! ### laws_markDependS: function 25 -/
def laws_markDependS.l0 : Nat → List (S44) → Int → Int → Option (Int × (List (S44)))
 | 0, _, _, _ => none
 | k + 1, x0, x1, x5 => if x5 < (x0.length : Int) then (if 0 ≤ x5 then ((some (x0.set (x5 : Int).toNat (⟨x1, (rd_T44 x0 x5).f1⟩ : S44) : List (S44))).bind fun y243 => (laws_markDependS.l0 k (y243.set (x5 : Int).toNat (⟨(rd_T44 y243 x5).f0, wrap64 (x1 + 1)⟩ : S44)) (wrap64 ((wrap64 (x1 + 1)) + 1)) (wrap64 (x5 + 1)))) else (none)) else (some (x1, x0))
def laws_markDependS.f (k : Nat) (l0 : List (S44)) (a1 : Int) : Option (Int × (List (S44))) := laws_markDependS.l0 k l0 a1 0
theorem laws_markDependS.mono_l : ∀ k, (∀ y0 y1 y2, LeO (laws_markDependS.l0 k y0 y1 y2) (laws_markDependS.l0 (k + 1) y0 y1 y2))
 | 0 => fun _ _ _ r h => by simp [laws_markDependS.l0] at h
 | k + 1 => by
  have ih0 := laws_markDependS.mono_l k
  ·intro y0 y1 y2
   unfold laws_markDependS.l0
   repeat' first
   | (with_reducible exact ih0 _ _ _)
   | (with_reducible exact LeO.refl _)
   | (with_reducible exact LeO.none _)
   | (with_reducible refine LeO.ite ?_ ?_)
   | (with_reducible refine LeO.bind ?_ (fun _ => ?_))
   | exact ih0 _ _ _
   | exact LeO.none _
   | refine LeO.ite ?_ ?_
   | refine LeO.bind ?_ (fun _ => ?_)
theorem laws_markDependS.mono : ∀ a0 a1 k, LeO (laws_markDependS.f k a0 a1) (laws_markDependS.f (k + 1) a0 a1) := by
 intro a0 a1 k
 have ih0 := laws_markDependS.mono_l k
 unfold laws_markDependS.f
 repeat' first
   | (with_reducible exact ih0 _ _ _)
   | (with_reducible exact LeO.refl _)
   | (with_reducible exact LeO.none _)
   | (with_reducible refine LeO.ite ?_ ?_)
   | (with_reducible refine LeO.bind ?_ (fun _ => ?_))
   | exact ih0 _ _ _
   | exact LeO.none _
   | refine LeO.ite ?_ ?_
   | refine LeO.bind ?_ (fun _ => ?_)
set_option maxHeartbeats 8000000 in
set_option maxRecDepth 100000 in
theorem laws_markDependS.calls (k : Nat) (P0_ : Nat → Prop) (u9000_ : Value) (l0 : List (S44)) (a1 : Int) (r1 : Int) (r2 : List (S44)) (w0 w : World) (hB : Below w0.heap.size w0 w) (ho0 : Kd.R k44 44 w w0.heap.size P0_ u9000_ l0) (h : laws_markDependS.f k l0 a1 = some (r1, r2)) :
  Calls Try.prog 25 #[u9000_, .int .i64 a1] w fun e w' => e = .returned (.int .i64 r1) ∧ Kd.R k44 44 w' w0.heap.size (fun k_ => (P0_ k_ ∨ w.heap.size ≤ k_)) u9000_ r2 ∧ Below w0.heap.size w0 w' ∧ Kept w w' (fun k_ => P0_ k_) := by
 have HO0 := Aside0.mk (show Kd.R k44 44 w w0.heap.size (fun k_ => (P0_ k_ ∨ w.heap.size ≤ k_)) u9000_ l0 from Kd.R_mono ho0 (fun k_ hk => (.inl hk)))
 have HK := Aside0.mk (Kept.refl w (fun k_ => P0_ k_))
 have HW0 := Aside0.mk hB.size
 have HB := Aside0.mk hB
 clear hB
 have H : (laws_markDependS.l0 k l0 a1 0) = some (r1, r2) := h
 clear h
 have H' := Aside0.mk H
 clear H
 go_enter Try.func25, Try.ntmps25
 go_wp2
 go_loopg [1, 5] k (fun kq v1 v5 w' => ∃ (x0_1 : List (S44)) (x1_1 : Int) (x5_1 : Int), v1 = .int .i64 x1_1 ∧ v5 = .int .i64 x5_1 ∧ Aside0 (laws_markDependS.l0 kq x0_1 x1_1 x5_1 = some (r1, r2)) ∧ Aside0 (kq ≤ k) ∧ Aside0 (Kd.R k44 44 w' w0.heap.size (fun k_ => (P0_ k_ ∨ w.heap.size ≤ k_)) u9000_ x0_1) ∧ Aside0 (Kept w w' (fun k_ => P0_ k_)) ∧ Aside0 (Below w0.heap.size w0 w'))
 case atStart => exact ⟨(l0), (a1), (0), ef_, ef_, H', ⟨Nat.le_refl _⟩, ⟨by (with_reducible repeat (first | apply Kd.R_alloc | apply Kd.R_drewN | apply Kd.R_drew)); exact HO0.out⟩, ⟨by repeat (first | (with_reducible first | exact HK.out | apply Kept.alloc | apply Kept.drewN | apply Kept.drew) | exact HK.out)⟩, ⟨bb_ HB.out⟩⟩
 case round =>
  clear H'
  obtain ⟨x0_1, x1_1, x5_1, rfl, rfl, HA, HK1, HO_0, HK, HB⟩ := hrel
  cases gk with
  | zero => exact absurd HA.out (by simp [laws_markDependS.l0])
  | succ k1 =>
   have H := HA.out
   clear HA
   simp only [laws_markDependS.l0] at H
   by_cases c3 : x5_1 < (x0_1.length : Int)
   ·rw [if_pos c3] at H
    have c3b0 : decide (x5_1 < (x0_1.length : Int)) = true := decide_eq_true c3
    clear c3
    by_cases c4 : 0 ≤ x5_1
    ·rw [if_pos c4] at H
     have c4b0 : decide (0 ≤ x5_1) = true := decide_eq_true c4
     clear c4
     obtain ⟨y243, hy243⟩ : ∃ y_ : List (S44), y_ = (x0_1.set (x5_1 : Int).toNat (⟨x1_1, (rd_T44 x0_1 x5_1).f1⟩ : S44)) := ⟨_, rfl⟩
     replace H : (laws_markDependS.l0 k1 (y243.set (x5_1 : Int).toNat (⟨(rd_T44 y243 x5_1).f0, wrap64 (x1_1 + 1)⟩ : S44)) (wrap64 ((wrap64 (x1_1 + 1)) + 1)) (wrap64 (x5_1 + 1))) = some (r1, r2) := by first | (rw [hy243]; with_reducible exact H) | (have H2_ := (Option.bind_some _ _).symm.trans H; rw [hy243]; with_reducible exact H2_) | (have H2_ := (Option.bind_some _ _).symm.trans H; with_reducible exact H2_) | with_reducible exact H | (rw [hy243]; exact H) | exact H
     have Ny243 := Aside0.mk hy243
     clear hy243
     obtain ⟨y244, hy244⟩ : ∃ y_ : List (S44), y_ = (y243.set (x5_1 : Int).toNat (⟨(rd_T44 y243 x5_1).f0, wrap64 (x1_1 + 1)⟩ : S44)) := ⟨_, rfl⟩
     replace H : (laws_markDependS.l0 k1 y244 (wrap64 ((wrap64 (x1_1 + 1)) + 1)) (wrap64 (x5_1 + 1))) = some (r1, r2) := by first | (rw [hy244]; with_reducible exact H) | (have H2_ := (Option.bind_some _ _).symm.trans H; rw [hy244]; with_reducible exact H2_) | (have H2_ := (Option.bind_some _ _).symm.trans H; with_reducible exact H2_) | with_reducible exact H | (rw [hy244]; exact H) | exact H
     have Ny244 := Aside0.mk hy244
     clear hy244
     have H' := Aside0.mk H
     clear H
     obtain ⟨Ao7, co7, eo7⟩ := Kd.R_slice HO_0.out
     subst eo7
     have p5 : 0 ≤ (x5_1 : Int) := of_decide_eq_true dg_
     have q5 : (x5_1 : Int) < ((x0_1.length : Int) : Int) := of_decide_eq_true dg_
     obtain ⟨go5, co5, eo5, gb5, gl5, cl5, HG5⟩ := Kd.R_form HO_0.out (by omega)
     (first | cases eo5 | (injection eo5 with ea_ en_ ec_; (first | subst ea_ | (injection ea_ with ea_; subst ea_)); subst ec_; clear en_))
     have GB5 := Aside0.mk gb5
     have GG5 := Aside0.mk HG5
     clear gb5 gl5 HG5
     have HMgo5 := Aside0.mk (show (P0_ go5 ∨ w.heap.size ≤ go5) from (HO_0.out.1 _ rfl))
     obtain ⟨ce5, hcl5, hM5, hcc5, hfr5⟩ := Kd.R_elem HO_0.out z44 (x5_1 : Int) p5 q5
     obtain rfl := k44_openM hM5
     have hx5_0 : wr.cell? ⟨go5, (x5_1 : Int).toNat * 2, none⟩ = some (.int .i64 ((rd_T44 x0_1 x5_1).f0)) := hcc5 0 _ rfl
     have hx5_1 : wr.cell? ⟨go5, (x5_1 : Int).toNat * 2 + 1, none⟩ = some (.int .i64 ((rd_T44 x0_1 x5_1).f1)) := hcc5 1 _ rfl
     have hf5_0 : wr.frozen? ⟨go5, (x5_1 : Int).toNat * 2, none⟩ = false := hfr5 0
     have hf5_1 : wr.frozen? ⟨go5, (x5_1 : Int).toNat * 2 + 1, none⟩ = false := hfr5 1
     clear hcl5 hcc5 hfr5; (try clear hM5)
     replace p5 := eq_true p5
     replace q5 := eq_true q5
     have HX8 := Aside0.mk (show Kd.R k44 44 wr w0.heap.size (fun k_ => (P0_ k_ ∨ w.heap.size ≤ k_)) (.slice (some ⟨go5, 0, none⟩) x0_1.length co7) x0_1 from (ra_ HO_0.out))
     obtain ⟨ce8, hcl8, hM8, hcc8, hfr8⟩ := Kd.R_elem HX8.out z44 (x5_1 : Int) (of_decide_eq_true dg_) (by have h_ : (x5_1 : Int) < ((x0_1.length : Int) : Int) := of_decide_eq_true dg_; first | exact h_ | (have e_ := (Kd.R_reads' HO_0.out).1; omega) | simpa using h_)
     obtain rfl := k44_openM hM8
     have HP8 := Kd.R_seg HX8.out (x5_1 : Int) (of_decide_eq_true dg_) (by have h_ : (x5_1 : Int) < ((x0_1.length : Int) : Int) := of_decide_eq_true dg_; first | exact h_ | (have e_ := (Kd.R_reads' HO_0.out).1; omega) | simpa using h_) (seg := [.int .i64 x1_1]) (j := 0) hcl8 hcc8 (show 1 ≤ 2 from by decide) (x' := (⟨x1_1, (rd_T44 x0_1 x5_1).f1⟩ : S44)) (k44_mkM _ _ _ (⟨x1_1, (rd_T44 x0_1 x5_1).f1⟩ : S44) ) (fun _ hk => hk)
     have hx8_0 := hcc8 0 _ rfl
     (try simp only [show (k44).sz = 2 from rfl, Nat.mul_one, Nat.add_zero] at hx8_0)
     have hf8_0 := hfr8 0
     (try simp only [show (k44).sz = 2 from rfl, Nat.mul_one, Nat.add_zero] at hf8_0)
     clear hcl8 hcc8 hfr8; (try clear hM8)
     go_wp2_with (first | ((with_reducible refine gate_store (t := 3) (p := 16) rfl ?_); refine store_event (t := 3) (p := 16) (v := ?vo_w9) (w1 := (wr.setCell ⟨go5, (x5_1 : Int).toNat * 2, none⟩ (.int .i64 x1_1))) ?hg ?ho ?hn ?hr ?_; (case ho => rfl); (case hg => rfl); (case hn => rfl); (case hr => first | (go_simp; done) | (go_simp; rfl)); intro w9 hw; have hg : wr.grownBy w9 (some go5) := (by rw [hw]; exact HP8.2); have hp_ : Kd.R k44 44 w9 w0.heap.size (fun k_ => (P0_ k_ ∨ w.heap.size ≤ k_)) (.slice (some ⟨go5, 0, none⟩) x0_1.length co7) y243 := (by rw [hw, Ny243.out]; exact HP8.1); clear HP8; replace HB := Aside0.mk ((by rw [hw]; exact below_set (HB.out) GB5.out : Below w0.heap.size w0 w9)); replace HK := Aside0.mk (Kept.of_grown (S := (fun k_ => P0_ k_)) hg (by repeat (first | (with_reducible first | exact HK.out | apply Kept.alloc | apply Kept.drewN | apply Kept.drew) | exact HK.out)) (fun k_ e_ => (HO_0.out.1 k_ e_))); replace HO_0 := Aside0.mk (hp_); clear hg hw hp_; have p6 : 0 ≤ (x5_1 : Int) := of_decide_eq_true dg_; have q6 : (x5_1 : Int) < ((x0_1.length : Int) : Int) := of_decide_eq_true dg_; obtain ⟨ce6, hcl6, hM6, hcc6, hfr6⟩ := Kd.R_elem HO_0.out z44 (x5_1 : Int) p6 q6; obtain rfl := k44_openM hM6; have hx6_0 : w9.cell? ⟨go5, (x5_1 : Int).toNat * 2, none⟩ = some (.int .i64 ((rd_T44 y243 x5_1).f0)) := hcc6 0 _ rfl; have hx6_1 : w9.cell? ⟨go5, (x5_1 : Int).toNat * 2 + 1, none⟩ = some (.int .i64 ((rd_T44 y243 x5_1).f1)) := hcc6 1 _ rfl; have hf6_0 : w9.frozen? ⟨go5, (x5_1 : Int).toNat * 2, none⟩ = false := hfr6 0; have hf6_1 : w9.frozen? ⟨go5, (x5_1 : Int).toNat * 2 + 1, none⟩ = false := hfr6 1; clear hcl6 hcc6 hfr6; (try clear hM6); replace p6 := eq_true p6; replace q6 := eq_true q6; have HX10 := Aside0.mk (show Kd.R k44 44 w9 w0.heap.size (fun k_ => (P0_ k_ ∨ w.heap.size ≤ k_)) (.slice (some ⟨go5, 0, none⟩) x0_1.length co7) y243 from (ra_ HO_0.out)); obtain ⟨ce10, hcl10, hM10, hcc10, hfr10⟩ := Kd.R_elem HX10.out z44 (x5_1 : Int) (of_decide_eq_true dg_) (by have h_ : (x5_1 : Int) < ((x0_1.length : Int) : Int) := of_decide_eq_true dg_; first | exact h_ | (have e_ := (Kd.R_reads' HO_0.out).1; omega) | simpa using h_); obtain rfl := k44_openM hM10; have HP10 := Kd.R_seg HX10.out (x5_1 : Int) (of_decide_eq_true dg_) (by have h_ : (x5_1 : Int) < ((x0_1.length : Int) : Int) := of_decide_eq_true dg_; first | exact h_ | (have e_ := (Kd.R_reads' HO_0.out).1; omega) | simpa using h_) (seg := [.int .i64 (wrap64 (x1_1 + 1))]) (j := 1) hcl10 hcc10 (show 2 ≤ 2 from by decide) (x' := (⟨(rd_T44 y243 x5_1).f0, wrap64 (x1_1 + 1)⟩ : S44)) (k44_mkM _ _ _ (⟨(rd_T44 y243 x5_1).f0, wrap64 (x1_1 + 1)⟩ : S44) ) (fun _ hk => hk); have hx10_1 := hcc10 1 _ rfl; (try simp only [show (k44).sz = 2 from rfl, Nat.mul_one, Nat.add_zero] at hx10_1); have hf10_1 := hfr10 1; (try simp only [show (k44).sz = 2 from rfl, Nat.mul_one, Nat.add_zero] at hf10_1); clear hcl10 hcc10 hfr10; (try clear hM10)) | ((with_reducible refine gate_store (t := 3) (p := 23) rfl ?_); refine store_event (t := 3) (p := 23) (v := ?vo_w11) (w1 := (w9.setCell ⟨go5, (x5_1 : Int).toNat * 2 + 1, none⟩ (.int .i64 (wrap64 (x1_1 + 1))))) ?hg ?ho ?hn ?hr ?_; (case ho => rfl); (case hg => rfl); (case hn => rfl); (case hr => first | (go_simp; done) | (go_simp; rfl)); intro w11 hw; have hg : w9.grownBy w11 (some go5) := (by rw [hw]; exact HP10.2); have hp_ : Kd.R k44 44 w11 w0.heap.size (fun k_ => (P0_ k_ ∨ w.heap.size ≤ k_)) (.slice (some ⟨go5, 0, none⟩) x0_1.length co7) y244 := (by rw [hw, Ny244.out]; exact HP10.1); clear HP10; replace HB := Aside0.mk ((by rw [hw]; exact below_set (HB.out) GB5.out : Below w0.heap.size w0 w11)); replace HK := Aside0.mk (Kept.of_grown (S := (fun k_ => P0_ k_)) hg (by repeat (first | (with_reducible first | exact HK.out | apply Kept.alloc | apply Kept.drewN | apply Kept.drew) | exact HK.out)) (fun k_ e_ => (HO_0.out.1 k_ e_))); replace HO_0 := Aside0.mk (hp_); clear hg hw hp_))
     go_roundg k1
     case measure => have := HK1.out; omega
     case rel => exact ⟨(y244), (wrap64 ((wrap64 (x1_1 + 1)) + 1)), (wrap64 (x5_1 + 1)), ef_, ef_, H', ⟨by have := HK1.out; omega⟩, ⟨by (with_reducible repeat (first | apply Kd.R_alloc | apply Kd.R_drewN | apply Kd.R_drew)); exact HO_0.out⟩, ⟨by repeat (first | (with_reducible first | exact HK.out | apply Kept.alloc | apply Kept.drewN | apply Kept.drew) | exact HK.out)⟩, ⟨bb_ HB.out⟩⟩
    ·rw [if_neg c4] at H
     exact absurd H (by simp)
   ·rw [if_neg c3] at H
    have c3b0 : decide (x5_1 < (x0_1.length : Int)) = false := decide_eq_false c3
    clear c3
    simp only [Option.some.injEq, Prod.mk.injEq] at H
    obtain ⟨rfl, rfl⟩ := H
    obtain ⟨Ao12, co12, eo12⟩ := Kd.R_slice HO_0.out
    subst eo12
    go_wp2
    go_ret
    exact ⟨fin_, by (with_reducible repeat (first | apply Kd.R_alloc | apply Kd.R_drewN | apply Kd.R_drew)); exact HO_0.out, bb_ HB.out, by repeat (first | (with_reducible first | exact HK.out | apply Kept.alloc | apply Kept.drewN | apply Kept.drew) | exact HK.out)⟩

end Go.Proofs.Ytagmogkdlimofaa.PFnExactShortestCycle
-- thin
