/- The law's functions as plain functions, and their calls. No condition. -/
import Derived.Test.YtchhgfgebomegaaPFnSendsx0
import Derived.Test.YtchhgfgebomegaaPFnSendsx4
namespace Go.Proofs.Ytchhgfgebomegaa.PFnSends
open Go.RowKit Go.Proofs.YtchhgfgebomegaaW.PrintWords Go.Proofs.YtchhgfgebomegaaW.PrintLast Go.Proofs.YtchhgfgebomegaaW.PrintMore
attribute [local go_sem] max2_int min2_int max_two min_two max_three min_three max_four min_four
set_option linter.unusedVariables false
set_option maxHeartbeats 8000000
set_option maxRecDepth 100000
set_option linter.unusedSimpArgs false

/-! ### slices_Contains_int_int: function 55 -/
def slices_Contains_int_int.f (k : Nat) (l0 : List Int) (a1 : Int) : Option (Bool) := (slices_Index_int_int.f k l0 a1).bind fun t258 => (some (decide (t258 ≥ 0)))
theorem slices_Contains_int_int.mono : ∀ a0 a1 k, LeO (slices_Contains_int_int.f k a0 a1) (slices_Contains_int_int.f (k + 1) a0 a1) := by
 intro a0 a1 k
 unfold slices_Contains_int_int.f
 repeat' (with_reducible first | exact slices_Index_int_int.mono .. | exact LeO.refl .. | exact LeO.none .. | refine LeO.ite ?_ ?_ | refine LeO.bind ?_ (fun _ => ?_))
theorem slices_Contains_int_int.calls (k : Nat) (A0 : Option Addr) (c0 : Nat) (l0 : List Int) (a1 : Int) (r : Bool) (w : World) (hr0 : Kd.C (Kd.int .i64) w A0 l0.length l0) (hc0 : l0.length ≤ c0) (h : slices_Contains_int_int.f k l0 a1 = some r) :
  Calls Try.prog 55 #[.slice A0 l0.length c0, .int .i64 a1] w fun e w' => e = .returned (.bool r) ∧ Drawn0 w w' := by
 have HR0 := Aside0.mk hr0
 have HC0 := Aside0.mk hc0
 clear hr0 hc0
 have H : ((slices_Index_int_int.f k l0 a1).bind fun t258 => (some (decide (t258 ≥ 0)))) = some r := h
 clear h
 obtain ⟨t258, A3, H⟩ := bi_ H
 obtain rfl := Option.some.inj H
 go_enter Try.func55, Try.ntmps55
 go_wp2_with (first | ((with_reducible refine gate_callee (f := 57) rfl ?_); refine gm_ (some 7) Try.func57 #[.slice A0 l0.length c0, .int .i64 a1] rfl ?_; (with_reducible refine (slices_Index_int_int.calls k _ _ l0 a1 t258 _ ?side1 HC0.out A3.out).mono ?_); (case side1 => repeat (first | exact HR0.out | (with_reducible refine Kd.C_alloc ?_ _) | (with_reducible refine Kd.C_drewN ?_ _) | (with_reducible refine Kd.C_drew ?_))); rintro e w' ⟨rfl, ⟨nd, rfl⟩⟩; refine ⟨_, rfl, ?_⟩))
 go_ret
 exact ⟨by first | rfl | (simp; done) | (simp [*]; done), by repeat (first | exact Drawn0.refl _ | apply Drawn0.step)⟩

/-! ### impl_HasChannel: function 52 -/
def impl_HasChannel.f (k : Nat) (a0_0 : Int) (a0_1 : Int) (l0_2 : List Int) (a1 : Int) : Option (Bool) := (impl_MeshOk.f k a0_0 a0_1 l0_2).bind fun t260 => (if t260 = true then ((impl_leads.f a0_0 a0_1 a1).bind fun t261 => (if t261 = true then ((slices_Contains_int_int.f k l0_2 a1).bind fun t262 => (some (!t262))) else (some false))) else (some false))
theorem impl_HasChannel.mono : ∀ a0 a1 a2 a3 k, LeO (impl_HasChannel.f k a0 a1 a2 a3) (impl_HasChannel.f (k + 1) a0 a1 a2 a3) := by
 intro a0 a1 a2 a3 k
 unfold impl_HasChannel.f
 repeat' (with_reducible first | exact impl_MeshOk.mono .. | exact slices_Contains_int_int.mono .. | exact LeO.refl .. | exact LeO.none .. | refine LeO.ite ?_ ?_ | refine LeO.bind ?_ (fun _ => ?_))
theorem impl_HasChannel.e0 {P : Prop} (h : P := by
 go_enter Try.func52, Try.ntmps52
 go_wp2_with (first | ((with_reducible refine gate_dst (N := 2) rfl ?_); refine box_event ?hg (N := 2) ?hd (cs := #[.int .i64 a0_0, .int .i64 a0_1, .slice A0_2 l0_2.length c0_2]) (t := 28) ?hr ?_; (case hd => rfl); (case hg => rfl); (case hr => first | (go_simp; done) | (go_simp; rfl)); intro gb259 hg w_0 hbox hb; have BK259 := Aside0.mk (hbox); have GW259 := gw_ hg HB; have GE259 := gw_ hg HB; replace HB := hs_ HB hb; clear hb hbox hg; obtain ⟨hcz_0, hcz_1, hcz_2, hfz_0, hfz_1, hfz_2⟩ := cz3_ BK259.out) | ((with_reducible refine gate_callee (f := 44) rfl ?_); refine gm_ (some 6) Try.func44 #[.agg #[.int .i64 a0_0, .int .i64 a0_1, .slice A0_2 l0_2.length c0_2]] rfl ?_; (with_reducible refine (impl_MeshOk.calls k a0_0 a0_1 _ _ l0_2 _ _ ?side1 HC0_2.out A3.out).mono ?_); (case side1 => exact cb_ HR0_2.out HB.out); rintro e w_0 ⟨rfl, hb⟩; refine ⟨_, rfl, ?_⟩; replace BK259 := kb_ BK259 hb; replace HB := hs_ HB hb; (try clear hb); obtain ⟨hcz_0, hcz_1, hcz_2, hfz_0, hfz_1, hfz_2⟩ := cz3_ BK259.out) | (go_at_call 50; (with_reducible refine (impl_leads.calls a0_0 a0_1 a1 _ _ A5.out).mono ?_); rintro e w_0 ⟨rfl, hb⟩; replace BK259 := kb_ BK259 hb; replace HB := hs_ HB hb; (try clear hb); obtain ⟨hcz_0, hcz_1, hcz_2, hfz_0, hfz_1, hfz_2⟩ := cz3_ BK259.out) | (go_at_call 55; (with_reducible refine (slices_Contains_int_int.calls k _ _ l0_2 a1 t262 _ ?side1 HC0_2.out A7.out).mono ?_); (case side1 => exact cb_ HR0_2.out HB.out); rintro e w' ⟨rfl, ⟨nd, rfl⟩⟩))
 go_ret
 exact ⟨fin_, bb_ HB.out⟩) : P := h
theorem impl_HasChannel.calls (k : Nat) (a0_0 : Int) (a0_1 : Int) (A0_2 : Option Addr) (c0_2 : Nat) (l0_2 : List Int) (a1 : Int) (r : Bool) (w : World) (hr0_2 : Kd.C (Kd.int .i64) w A0_2 l0_2.length l0_2) (hc0_2 : l0_2.length ≤ c0_2) (h : impl_HasChannel.f k a0_0 a0_1 l0_2 a1 = some r) :
  Calls Try.prog 52 #[.agg #[.int .i64 a0_0, .int .i64 a0_1, .slice A0_2 l0_2.length c0_2], .int .i64 a1] w fun e w' => e = .returned (.bool r) ∧ Below w.heap.size w w' := by
 have hu28 := Try.underlying28
 have hu25 := Try.underlying25
 have HR0_2 := Aside0.mk hr0_2
 have HC0_2 := Aside0.mk hc0_2
 clear hr0_2 hc0_2
 have HB := Aside0.mk (Below.refl w.heap.size w)
 have H : ((impl_MeshOk.f k a0_0 a0_1 l0_2).bind fun t260 => (if t260 = true then ((impl_leads.f a0_0 a0_1 a1).bind fun t261 => (if t261 = true then ((slices_Contains_int_int.f k l0_2 a1).bind fun t262 => (some (!t262))) else (some false))) else (some false))) = some r := h
 clear h
 obtain ⟨t260, A3, H⟩ := bi_ H
 by_cases c4 : t260 = true
 ·subst c4
  rw [if_pos rfl] at H
  obtain ⟨t261, A5, H⟩ := bi_ H
  by_cases c6 : t261 = true
  rotate_left
  ·replace c6 := Bool.eq_false_iff.mpr c6
   subst c6
   rw [if_neg (show ¬ (false = true) by decide)] at H
   obtain rfl := Option.some.inj H
   exact impl_HasChannel.e0
  subst c6
  rw [if_pos rfl] at H
  obtain ⟨t262, A7, H⟩ := bi_ H
  obtain rfl := Option.some.inj H
  exact impl_HasChannel.e0
 ·replace c4 := Bool.eq_false_iff.mpr c4
  subst c4
  rw [if_neg (show ¬ (false = true) by decide)] at H
  obtain rfl := Option.some.inj H
  exact impl_HasChannel.e0

/-! ### impl_endOf: function 53 -/
def impl_endOf.f (a0_0 : Int) (a0_1 : Int) (l0_2 : List Int) (a1 : Int) : Option (Int) := (impl_NextNode.f a0_0 a0_1 (wrap64 (Int.tdiv a1 4)) (Int.tmod a1 4)).bind fun t264 => (some t264)
theorem impl_endOf.calls (a0_0 : Int) (a0_1 : Int) (A0_2 : Option Addr) (c0_2 : Nat) (l0_2 : List Int) (a1 : Int) (r : Int) (w : World) (hr0_2 : Kd.C (Kd.int .i64) w A0_2 l0_2.length l0_2) (hc0_2 : l0_2.length ≤ c0_2) (h : impl_endOf.f a0_0 a0_1 l0_2 a1 = some r) :
  Calls Try.prog 53 #[.agg #[.int .i64 a0_0, .int .i64 a0_1, .slice A0_2 l0_2.length c0_2], .int .i64 a1] w fun e w' => e = .returned (.int .i64 r) ∧ Below w.heap.size w w' := by
 have hu28 := Try.underlying28
 have hu25 := Try.underlying25
 have HR0_2 := Aside0.mk hr0_2
 have HC0_2 := Aside0.mk hc0_2
 clear hr0_2 hc0_2
 have HB := Aside0.mk (Below.refl w.heap.size w)
 have H : ((impl_NextNode.f a0_0 a0_1 (wrap64 (Int.tdiv a1 4)) (Int.tmod a1 4)).bind fun t264 => (some t264)) = some r := h
 clear h
 obtain ⟨t264, A3, H⟩ := bi_ H
 obtain rfl := Option.some.inj H
 go_enter Try.func53, Try.ntmps53
 go_wp2_with (first | ((with_reducible refine gate_dst (N := 2) rfl ?_); refine box_event ?hg (N := 2) ?hd (cs := #[.int .i64 a0_0, .int .i64 a0_1, .slice A0_2 l0_2.length c0_2]) (t := 28) ?hr ?_; (case hd => rfl); (case hg => rfl); (case hr => first | (go_simp; done) | (go_simp; rfl)); intro gb263 hg w4 hbox hb; have BK263 := Aside0.mk (hbox); have GW263 := gw_ hg HB; have GE263 := gw_ hg HB; replace HB := hs_ HB hb; clear hb hbox hg; obtain ⟨hcz5_0, hcz5_1, hcz5_2, hfz5_0, hfz5_1, hfz5_2⟩ := cz3_ BK263.out) | ((with_reducible refine gate_callee (f := 54) rfl ?_); refine gm_ (some 11) Try.func54 #[.agg #[.int .i64 a0_0, .int .i64 a0_1], .int .i64 (wrap64 (Int.tdiv a1 4)), .int .i64 (Int.tmod a1 4)] rfl ?_; (with_reducible refine (impl_NextNode.calls a0_0 a0_1 (wrap64 (Int.tdiv a1 4)) (Int.tmod a1 4) t264 _ A3.out).mono ?_); rintro e w6 ⟨rfl, hb⟩; refine ⟨_, rfl, ?_⟩; replace BK263 := kb_ BK263 hb; replace HB := hs_ HB hb; (try clear hb)))
 go_ret
 exact ⟨fin_, bb_ HB.out⟩

/-! ### impl_WalkTable: function 47 -/
mutual
def impl_WalkTable.j0 : Nat → Int → Int → Bool → Int → Int → List Int → List Int → Option (List Int)
 | 0, _, _, _, _, _, _, _ => none
 | k + 1, x2, x3, x33, x266000, x266001, x266002, x267000 => if x33 = true then (some ([] : List Int)) else (impl_WalkTable.l0 k x3 (([] : List Int)) x2 x266000 x266001 x266002 x267000)
def impl_WalkTable.l0 : Nat → Int → List Int → Int → Int → Int → List Int → List Int → Option (List Int)
 | 0, _, _, _, _, _, _, _ => none
 | k + 1, x3, x9, x10, x266000, x266001, x266002, x267000 => (impl_PortAt.f k x266000 x266001 x266002 x267000 x10 x3).bind fun t273 => (if t273 < 0 then (some ([] : List Int)) else (if t273 = 4 then (if x10 = x3 then (some x9) else (some ([] : List Int))) else ((impl_HasChannel.f k x266000 x266001 x266002 (wrap64 ((wrap64 (4 * x10)) + t273))).bind fun t274 => (if t274 = true then ((impl_NodeCount.f x266000 x266001).bind fun t275 => (if (x9.length : Int) = t275 then (some ([] : List Int)) else (if x9.length < 17592186044416 then ((impl_endOf.f x266000 x266001 x266002 (wrap64 ((wrap64 (4 * x10)) + t273))).bind fun t279 => (impl_WalkTable.l0 k x3 (x9 ++ [wrap64 ((wrap64 (4 * x10)) + t273)]) t279 x266000 x266001 x266002 x267000)) else (none)))) else (some ([] : List Int))))))
end
def impl_WalkTable.f (k : Nat) (a0_0 : Int) (a0_1 : Int) (l0_2 : List Int) (l1_0 : List Int) (a2 : Int) (a3 : Int) : Option (List Int) := if a2 = a3 then (impl_WalkTable.j0 k a2 a3 true a0_0 a0_1 l0_2 l1_0) else ((impl_MeshOk.f k a0_0 a0_1 l0_2).bind fun t267 => (if t267 = true then ((impl_isNode.f a0_0 a0_1 a2).bind fun t268 => (if t268 = true then ((impl_isNode.f a0_0 a0_1 a3).bind fun t269 => (impl_WalkTable.j0 k a2 a3 (!t269) a0_0 a0_1 l0_2 l1_0)) else (impl_WalkTable.j0 k a2 a3 true a0_0 a0_1 l0_2 l1_0))) else (impl_WalkTable.j0 k a2 a3 true a0_0 a0_1 l0_2 l1_0)))
theorem impl_WalkTable.mono_l : ∀ k, (∀ y0 y1 y2 y3 y4 y5 y6, LeO (impl_WalkTable.j0 k y0 y1 y2 y3 y4 y5 y6) (impl_WalkTable.j0 (k + 1) y0 y1 y2 y3 y4 y5 y6)) ∧ (∀ y0 y1 y2 y3 y4 y5 y6, LeO (impl_WalkTable.l0 k y0 y1 y2 y3 y4 y5 y6) (impl_WalkTable.l0 (k + 1) y0 y1 y2 y3 y4 y5 y6))
 | 0 => ⟨fun _ _ _ _ _ _ _ r h => by simp [impl_WalkTable.j0] at h, fun _ _ _ _ _ _ _ r h => by simp [impl_WalkTable.l0] at h⟩
 | k + 1 => by
  obtain ⟨ih0, ih1⟩ := impl_WalkTable.mono_l k
  refine ⟨?_, ?_⟩
  ·intro y0 y1 y2 y3 y4 y5 y6
   unfold impl_WalkTable.j0
   repeat' (with_reducible first | exact ih0 .. | exact ih1 .. | exact impl_HasChannel.mono .. | exact impl_MeshOk.mono .. | exact impl_PortAt.mono .. | exact LeO.refl .. | exact LeO.none .. | refine LeO.ite ?_ ?_ | refine LeO.bind ?_ (fun _ => ?_))
  ·intro y0 y1 y2 y3 y4 y5 y6
   unfold impl_WalkTable.l0
   repeat' (with_reducible first | exact ih0 .. | exact ih1 .. | exact impl_HasChannel.mono .. | exact impl_MeshOk.mono .. | exact impl_PortAt.mono .. | exact LeO.refl .. | exact LeO.none .. | refine LeO.ite ?_ ?_ | refine LeO.bind ?_ (fun _ => ?_))
theorem impl_WalkTable.mono : ∀ a0 a1 a2 a3 a4 a5 k, LeO (impl_WalkTable.f k a0 a1 a2 a3 a4 a5) (impl_WalkTable.f (k + 1) a0 a1 a2 a3 a4 a5) := by
 intro a0 a1 a2 a3 a4 a5 k
 obtain ⟨ih0, ih1⟩ := impl_WalkTable.mono_l k
 unfold impl_WalkTable.f
 repeat' (with_reducible first | exact ih0 .. | exact ih1 .. | exact impl_HasChannel.mono .. | exact impl_MeshOk.mono .. | exact impl_PortAt.mono .. | exact LeO.refl .. | exact LeO.none .. | refine LeO.ite ?_ ?_ | refine LeO.bind ?_ (fun _ => ?_))
theorem impl_WalkTable.e0 {P : Prop} (h : P := by
 obtain ⟨hcz_0, hcz_1, hcz_2, hfz_0, hfz_1, hfz_2⟩ := cz3_ BK265.out
 go_wp2_with (first | (go_at_call 44; (with_reducible refine (impl_MeshOk.calls k a0_0 a0_1 _ _ l0_2 _ _ ?side1 HC0_2.out A9.out).mono ?_); (case side1 => exact cb_ HR0_2.out HB.out); rintro e w_0 ⟨rfl, hb⟩; replace BK265 := kb_ BK265 hb; replace BK266 := kb_ BK266 hb; replace HB := hs_ HB hb; (try clear hb); obtain ⟨hcz_0, hcz_1, hcz_2, hfz_0, hfz_1, hfz_2⟩ := cz3_ BK265.out) | (go_at_call 39; (with_reducible refine (impl_isNode.calls a0_0 a0_1 a2 _ _ A11.out).mono ?_); rintro e w_0 ⟨rfl, hb⟩; replace BK265 := kb_ BK265 hb; replace BK266 := kb_ BK266 hb; replace HB := hs_ HB hb; (try clear hb)))
 go_meet
 case rel => exact ⟨_, (true), ef_, H', ⟨kq_⟩, ⟨bq_ BK265.out⟩, ⟨bq_ BK266.out⟩, ⟨bb_ HB.out⟩⟩) : P := h
theorem impl_WalkTable.e1 {P : Prop} (h : P := by
 obtain ⟨hcz_0, hcz_1, hcz_2, hfz_0, hfz_1, hfz_2⟩ := cz3_ BK265.out
 obtain ⟨hcz_0, hfz_0⟩ := cz1_ BK266.out
 go_wp2_with (first | ((with_reducible refine gate_callee (f := 51) rfl ?_); refine gm_ (some 40) Try.func51 #[.agg #[.int .i64 a0_0, .int .i64 a0_1, .slice A0_2 l0_2.length c0_2], .agg #[.slice A1_0 l1_0.length c1_0], .int .i64 x10_2, .int .i64 a3] rfl ?_; (with_reducible refine (impl_PortAt.calls k2 a0_0 a0_1 _ _ l0_2 _ _ l1_0 x10_2 a3 t273 _ ?side1 HC0_2.out ?side3 HC1_0.out A32.out).mono ?_); (case side1 => exact cb_ HR0_2.out HB.out); (case side3 => exact cb_ HR1_0.out HB.out); rintro e w_0 ⟨rfl, hb⟩; refine ⟨_, rfl, ?_⟩; replace HO_9 := rb_ HO_9 hb; replace BK265 := kb_ BK265 hb; replace BK266 := kb_ BK266 hb; replace HB := hs_ HB hb; (try clear hb); obtain ⟨hcz_0, hcz_1, hcz_2, hfz_0, hfz_1, hfz_2⟩ := cz3_ BK265.out) | ((with_reducible refine gate_callee (f := 52) rfl ?_); refine gm_ (some 57) Try.func52 #[.agg #[.int .i64 a0_0, .int .i64 a0_1, .slice A0_2 l0_2.length c0_2], .int .i64 (wrap64 ((wrap64 (4 * x10_2)) + t273))] rfl ?_; (with_reducible refine (impl_HasChannel.calls k2 a0_0 a0_1 _ _ l0_2 (wrap64 ((wrap64 (4 * x10_2)) + t273)) _ _ ?side1 HC0_2.out A48.out).mono ?_); (case side1 => exact cb_ HR0_2.out HB.out); rintro e w_0 ⟨rfl, hb⟩; refine ⟨_, rfl, ?_⟩; replace HO_9 := rb_ HO_9 hb; replace BK265 := kb_ BK265 hb; replace BK266 := kb_ BK266 hb; replace HB := hs_ HB hb; (try clear hb); obtain ⟨Ao58, co58, eo58⟩ := Kd.R_slice HO_9.out; subst eo58; obtain ⟨hcz_0, hcz_1, hcz_2, hfz_0, hfz_1, hfz_2⟩ := cz3_ BK265.out) | (go_at_call 19; (with_reducible refine (impl_NodeCount.calls a0_0 a0_1 t275 _ A50.out).mono ?_); rintro e w_0 ⟨rfl, hb⟩; replace HO_9 := rb_ HO_9 hb; replace BK265 := kb_ BK265 hb; replace BK266 := kb_ BK266 hb; replace HB := hs_ HB hb; (try clear hb)) | ((with_reducible refine gate_callee (f := 52) rfl ?_); refine gm_ (some 57) Try.func52 #[.agg #[.int .i64 a0_0, .int .i64 a0_1, .slice A0_2 l0_2.length c0_2], .int .i64 (wrap64 ((wrap64 (4 * x10_2)) + t273))] rfl ?_; (with_reducible refine (impl_HasChannel.calls k2 a0_0 a0_1 _ _ l0_2 (wrap64 ((wrap64 (4 * x10_2)) + t273)) _ _ ?side1 HC0_2.out A48.out).mono ?_); (case side1 => exact cb_ HR0_2.out HB.out); rintro e w_0 ⟨rfl, hb⟩; refine ⟨_, rfl, ?_⟩; replace HO_9 := rb_ HO_9 hb; replace BK265 := kb_ BK265 hb; replace BK266 := kb_ BK266 hb; replace HB := hs_ HB hb; (try clear hb)))
 go_ret
 exact ⟨_, fin_, by first | exact Kd.R_nil _ _ _ _ _ | exact Kd.N_nil _ _ _ _ _ | exact Kd.V_nil _ _ _ _ _ | exact Kd.Q_nil _ _ _ _ _ | exact Kd.S_nil _ _ _ _ _, bb_ HB.out⟩) : P := h
theorem impl_WalkTable.calls (k : Nat) (a0_0 : Int) (a0_1 : Int) (A0_2 : Option Addr) (c0_2 : Nat) (l0_2 : List Int) (A1_0 : Option Addr) (c1_0 : Nat) (l1_0 : List Int) (a2 : Int) (a3 : Int) (r : List Int) (w : World) (hr0_2 : Kd.C (Kd.int .i64) w A0_2 l0_2.length l0_2) (hc0_2 : l0_2.length ≤ c0_2) (hr1_0 : Kd.C (Kd.int .i64) w A1_0 l1_0.length l1_0) (hc1_0 : l1_0.length ≤ c1_0) (h : impl_WalkTable.f k a0_0 a0_1 l0_2 l1_0 a2 a3 = some r) :
  Calls Try.prog 47 #[.agg #[.int .i64 a0_0, .int .i64 a0_1, .slice A0_2 l0_2.length c0_2], .agg #[.slice A1_0 l1_0.length c1_0], .int .i64 a2, .int .i64 a3] w fun e w' => ∃ v0_ : Value, e = .returned (v0_) ∧ Kd.R (Kd.int .i64) 3 w' w.heap.size (fun _ => True) v0_ r ∧ Below w.heap.size w w' := by
 have hu28 := Try.underlying28
 have hu30 := Try.underlying30
 have hu25 := Try.underlying25
 have HR0_2 := Aside0.mk hr0_2
 have HC0_2 := Aside0.mk hc0_2
 clear hr0_2 hc0_2
 have HR1_0 := Aside0.mk hr1_0
 have HC1_0 := Aside0.mk hc1_0
 clear hr1_0 hc1_0
 have HB := Aside0.mk (Below.refl w.heap.size w)
 have H : (if a2 = a3 then (impl_WalkTable.j0 k a2 a3 true a0_0 a0_1 l0_2 l1_0) else ((impl_MeshOk.f k a0_0 a0_1 l0_2).bind fun t267 => (if t267 = true then ((impl_isNode.f a0_0 a0_1 a2).bind fun t268 => (if t268 = true then ((impl_isNode.f a0_0 a0_1 a3).bind fun t269 => (impl_WalkTable.j0 k a2 a3 (!t269) a0_0 a0_1 l0_2 l1_0)) else (impl_WalkTable.j0 k a2 a3 true a0_0 a0_1 l0_2 l1_0))) else (impl_WalkTable.j0 k a2 a3 true a0_0 a0_1 l0_2 l1_0)))) = some r := h
 clear h
 have HC5 := Aside0.mk H
 clear H
 go_enter Try.func47, Try.ntmps47
 go_upto_region 1 with (first | ((with_reducible refine gate_dst (N := 4) rfl ?_); (try (refine gate_guard (by rfl) ?_; dsimp only)); refine box_event ?hg (N := 4) ?hd (cs := #[.int .i64 a0_0, .int .i64 a0_1, .slice A0_2 l0_2.length c0_2]) (t := 28) ?hr ?_; (case hd => rfl); (case hg => rfl); (case hr => first | (go_simp; done) | (go_simp; rfl)); intro gb265 hg w6 hbox hb; have BK265 := Aside0.mk (hbox); have GW265 := gw_ hg HB; have GE265 := gw_ hg HB; replace HB := hs_ HB hb; clear hb hbox hg) | ((with_reducible refine gate_dst (N := 5) rfl ?_); (try (refine gate_guard (by rfl) ?_; dsimp only)); refine box_event ?hg (N := 5) ?hd (cs := #[.slice A1_0 l1_0.length c1_0]) (t := 30) ?hr ?_; (case hd => rfl); (case hg => rfl); (case hr => first | (go_simp; done) | (go_simp; rfl)); intro gb266 hg w7 hbox hb; have BK266 := Aside0.mk (hbox); have GW266 := gw_ hg HB; have GE266 := gw_ hg HB; replace HB := hs_ HB hb; have NB265_266 := nl_ hg BK265; have NB266_265 := ng_ hg BK265; replace BK265 := kb_ BK265 hb; clear hb hbox hg))
 (try simp only [Act.put, List.setIfInBounds_toArray, List.set_cons_zero, List.set_cons_succ])
 go_cut [33] (fun v33 wc => ∃ (kq : Nat) (x33_4 : Bool), v33 = .bool x33_4 ∧ Aside0 (impl_WalkTable.j0 kq a2 a3 x33_4 a0_0 a0_1 l0_2 l1_0 = some r) ∧ Aside0 (kq ≤ k) ∧ Aside0 (wc.heap[gb265]? = some (.cells #[.int .i64 a0_0, .int .i64 a0_1, (.slice A0_2 l0_2.length c0_2)] 28 (0, 0))) ∧ Aside0 (wc.heap[gb266]? = some (.cells #[(.slice A1_0 l1_0.length c1_0)] 30 (0, 0))) ∧ Aside0 (Below w.heap.size w wc))
 case first =>
  have H := HC5.out
  clear HC5
  by_cases c8 : a2 = a3
  ·rw [if_pos c8] at H
   have c8b0 : (a2 == a3) = true := beq_iff_eq.mpr c8
   have c8b1 : (a2 != a3) = false := bne_eq_false_iff_eq.mpr c8
   clear c8
   (first | rw [c8b0] | (simp only [i64_w, i32_w]; rw [c8b0]) | skip)
   have H' := Aside0.mk H
   clear H
   go_wp2
   go_meet
   case rel => exact ⟨_, (true), ef_, H', ⟨kq_⟩, ⟨bq_ BK265.out⟩, ⟨bq_ BK266.out⟩, ⟨bb_ HB.out⟩⟩
  rw [if_neg c8] at H
  have c8b0 : (a2 == a3) = false := beq_eq_false_iff_ne.mpr c8
  have c8b1 : (a2 != a3) = true := bne_iff_ne.mpr c8
  (first | rw [c8b0] | (simp only [i64_w, i32_w]; rw [c8b0]) | skip)
  obtain ⟨t267, A9, H⟩ := bi_ H
  by_cases c10 : t267 = true
  rotate_left
  ·replace c10 := Bool.eq_false_iff.mpr c10
   subst c10
   rw [if_neg (show ¬ (false = true) by decide)] at H
   have H' := Aside0.mk H
   clear H
   have hnb26 := NB265_266.out
   have hnc26 := NB266_265.out
   exact impl_WalkTable.e0
  subst c10
  rw [if_pos rfl] at H
  obtain ⟨t268, A11, H⟩ := bi_ H
  by_cases c12 : t268 = true
  rotate_left
  ·replace c12 := Bool.eq_false_iff.mpr c12
   subst c12
   rw [if_neg (show ¬ (false = true) by decide)] at H
   have H' := Aside0.mk H
   clear H
   have hnb21 := NB265_266.out
   have hnc21 := NB266_265.out
   exact impl_WalkTable.e0
  subst c12
  rw [if_pos rfl] at H
  obtain ⟨t269, A13, H⟩ := bi_ H
  have H' := Aside0.mk H
  clear H
  have hnb14 := NB265_266.out
  have hnc14 := NB266_265.out
  obtain ⟨hcz15_0, hcz15_1, hcz15_2, hfz15_0, hfz15_1, hfz15_2⟩ := cz3_ BK265.out
  go_wp2_with (first | (go_at_call 44; (with_reducible refine (impl_MeshOk.calls k a0_0 a0_1 _ _ l0_2 true _ ?side1 HC0_2.out A9.out).mono ?_); (case side1 => exact cb_ HR0_2.out HB.out); rintro e w16 ⟨rfl, hb⟩; replace BK265 := kb_ BK265 hb; replace BK266 := kb_ BK266 hb; replace HB := hs_ HB hb; (try clear hb); obtain ⟨hcz17_0, hcz17_1, hcz17_2, hfz17_0, hfz17_1, hfz17_2⟩ := cz3_ BK265.out) | (go_at_call 39; (with_reducible refine (impl_isNode.calls a0_0 a0_1 a2 true _ A11.out).mono ?_); rintro e w18 ⟨rfl, hb⟩; replace BK265 := kb_ BK265 hb; replace BK266 := kb_ BK266 hb; replace HB := hs_ HB hb; (try clear hb); obtain ⟨hcz19_0, hcz19_1, hcz19_2, hfz19_0, hfz19_1, hfz19_2⟩ := cz3_ BK265.out) | (go_at_call 39; (with_reducible refine (impl_isNode.calls a0_0 a0_1 a3 t269 _ A13.out).mono ?_); rintro e w20 ⟨rfl, hb⟩; replace BK265 := kb_ BK265 hb; replace BK266 := kb_ BK266 hb; replace HB := hs_ HB hb; (try clear hb)))
  go_meet
  case rel => exact ⟨_, (!t269), ef_, H', ⟨kq_⟩, ⟨bq_ BK265.out⟩, ⟨bq_ BK266.out⟩, ⟨bb_ HB.out⟩⟩
 case rest =>
  clear HC5
  obtain ⟨kq, x33_4, rfl, HA, HJ4, BK265, BK266, HB⟩ := hcut
  cases kq with
  | zero => exact absurd HA.out (by simp [impl_WalkTable.j0])
  | succ kj4 =>
   have H := HA.out
   clear HA
   simp only [impl_WalkTable.j0] at H
   by_cases c29 : x33_4 = true
   ·subst c29
    rw [if_pos rfl] at H
    obtain rfl := Option.some.inj H
    go_wp2
    go_ret
    exact ⟨_, fin_, by first | exact Kd.R_nil _ _ _ _ _ | exact Kd.N_nil _ _ _ _ _ | exact Kd.V_nil _ _ _ _ _ | exact Kd.Q_nil _ _ _ _ _ | exact Kd.S_nil _ _ _ _ _, bb_ HB.out⟩
   ·replace c29 := Bool.eq_false_iff.mpr c29
    subst c29
    rw [if_neg (show ¬ (false = true) by decide)] at H
    obtain ⟨y270, hy270⟩ : ∃ y_ : List Int, y_ = (([] : List Int)) := ⟨_, rfl⟩
    replace H : (impl_WalkTable.l0 kj4 a3 y270 a2 a0_0 a0_1 l0_2 l1_0) = some r := by first | (rw [hy270]; with_reducible exact H) | (have H2_ := (Option.bind_some _ _).symm.trans H; rw [hy270]; with_reducible exact H2_) | (have H2_ := (Option.bind_some _ _).symm.trans H; with_reducible exact H2_) | with_reducible exact H | (rw [hy270]; exact H) | exact H
    have Ny270 := Aside0.mk hy270
    clear hy270
    have H' := Aside0.mk H
    clear H
    go_wp2_with (first | ((with_reducible refine gate_dst (N := 34) rfl ?_); (try (refine gate_guard (by rfl) ?_; dsimp only)); refine Kd.R_lit (Kd.int .i64) _ 3 ?hg (N := 34) ?hd (xs := ([] : List Int)) (inner := []) (ok := fun _ => True) (okp := fun _ => True) ?hr ?hp (fun _ hk => hk) trivial (Below.refl _ _) (Nat.le_refl _) (by simp) ?_; (case hd => rfl); (case hg => rfl); (case hr => first | (go_simp; done) | (go_simp; rfl)); (case hp => exact (Reps.none _ _)); intro v271 w30 ho31 hb hg_ hnew_; clear hg_ hnew_; (first | rw [← Ny270.out] at ho31 | (simp only [Int.reduceToNat] at ho31; rw [← Ny270.out] at ho31)); have HO272 := Aside0.mk (Kd.R_lower ho31 (bz_ HB.out)); replace BK265 := kb_ BK265 hb; replace BK266 := kb_ BK266 hb; replace HB := hs_ HB hb; clear hb ho31))
    go_loopg [9, 10] kj4 (fun kq v9 v10 w' => ∃ (x9_2 : List Int) (x10_2 : Int), v10 = .int .i64 x10_2 ∧ Aside0 (impl_WalkTable.l0 kq a3 x9_2 x10_2 a0_0 a0_1 l0_2 l1_0 = some r) ∧ Aside0 (kq ≤ kj4) ∧ Aside0 (Kd.R (Kd.int .i64) 3 w' w.heap.size (fun _ => True) v9 x9_2) ∧ Aside0 (w'.heap[gb265]? = some (.cells #[.int .i64 a0_0, .int .i64 a0_1, (.slice A0_2 l0_2.length c0_2)] 28 (0, 0))) ∧ Aside0 (w'.heap[gb266]? = some (.cells #[(.slice A1_0 l1_0.length c1_0)] 30 (0, 0))) ∧ Aside0 (Below w.heap.size w w'))
    case atStart => exact ⟨(y270), (a2), ef_, H', ⟨Nat.le_refl _⟩, ⟨ra_ HO272.out⟩, ⟨bq_ BK265.out⟩, ⟨bq_ BK266.out⟩, ⟨bb_ HB.out⟩⟩
    clear H'
    try clear c29
    obtain ⟨x9_2, x10_2, rfl, HA, HK2, HO_9, BK265, BK266, HB⟩ := hrel
    obtain _ | k2 := gk
    ·exact absurd HA.out (by simp [impl_WalkTable.l0])
    have H := HA.out
    clear HA
    simp only [impl_WalkTable.l0] at H
    obtain ⟨t273, A32, H⟩ := bi_ H
    by_cases c33 : t273 < 0
    ·rw [if_pos c33] at H
     have c33b0 : decide (t273 < 0) = true := decide_eq_true c33
     clear c33
     obtain rfl := Option.some.inj H
     have hnb34 := NB265_266.out
     have hnc34 := NB266_265.out
     exact impl_WalkTable.e1
    rw [if_neg c33] at H
    have c33b0 : decide (t273 < 0) = false := decide_eq_false c33
    clear c33
    by_cases c38 : t273 = 4
    ·rw [if_pos c38] at H
     have c38b0 : (t273 == 4) = true := beq_iff_eq.mpr c38
     have c38b1 : (t273 != 4) = false := bne_eq_false_iff_eq.mpr c38
     clear c38
     by_cases c39 : x10_2 = a3
     rotate_left
     ·rw [if_neg c39] at H
      have c39b0 : (x10_2 == a3) = false := beq_eq_false_iff_ne.mpr c39
      have c39b1 : (x10_2 != a3) = true := bne_iff_ne.mpr c39
      obtain rfl := Option.some.inj H
      have hnb44 := NB265_266.out
      have hnc44 := NB266_265.out
      exact impl_WalkTable.e1
     rw [if_pos c39] at H
     have c39b0 : (x10_2 == a3) = true := beq_iff_eq.mpr c39
     have c39b1 : (x10_2 != a3) = false := bne_eq_false_iff_eq.mpr c39
     clear c39
     obtain rfl := Option.some.inj H
     have hnb40 := NB265_266.out
     have hnc40 := NB266_265.out
     obtain ⟨hcz41_0, hcz41_1, hcz41_2, hfz41_0, hfz41_1, hfz41_2⟩ := cz3_ BK265.out
     obtain ⟨hcz42_0, hfz42_0⟩ := cz1_ BK266.out
     go_wp2_with (first | ((with_reducible refine gate_callee (f := 51) rfl ?_); refine gm_ (some 40) Try.func51 #[.agg #[.int .i64 a0_0, .int .i64 a0_1, .slice A0_2 l0_2.length c0_2], .agg #[.slice A1_0 l1_0.length c1_0], .int .i64 x10_2, .int .i64 a3] rfl ?_; (with_reducible refine (impl_PortAt.calls k2 a0_0 a0_1 _ _ l0_2 _ _ l1_0 x10_2 a3 t273 _ ?side1 HC0_2.out ?side3 HC1_0.out A32.out).mono ?_); (case side1 => exact cb_ HR0_2.out HB.out); (case side3 => exact cb_ HR1_0.out HB.out); rintro e w43 ⟨rfl, hb⟩; refine ⟨_, rfl, ?_⟩; replace HO_9 := rb_ HO_9 hb; replace BK265 := kb_ BK265 hb; replace BK266 := kb_ BK266 hb; replace HB := hs_ HB hb; (try clear hb)))
     go_ret
     exact ⟨_, fin_, ra_ HO_9.out, bb_ HB.out⟩
    rw [if_neg c38] at H
    have c38b0 : (t273 == 4) = false := beq_eq_false_iff_ne.mpr c38
    have c38b1 : (t273 != 4) = true := bne_iff_ne.mpr c38
    obtain ⟨t274, A48, H⟩ := bi_ H
    by_cases c49 : t274 = true
    rotate_left
    ·replace c49 := Bool.eq_false_iff.mpr c49
     subst c49
     rw [if_neg (show ¬ (false = true) by decide)] at H
     obtain rfl := Option.some.inj H
     have hnb75 := NB265_266.out
     have hnc75 := NB266_265.out
     exact impl_WalkTable.e1
    subst c49
    rw [if_pos rfl] at H
    obtain ⟨t275, A50, H⟩ := bi_ H
    by_cases c51 : (x9_2.length : Int) = t275
    ·rw [if_pos c51] at H
     have c51b0 : ((x9_2.length : Int) == t275) = true := beq_iff_eq.mpr c51
     have c51b1 : ((x9_2.length : Int) != t275) = false := bne_eq_false_iff_eq.mpr c51
     clear c51
     obtain rfl := Option.some.inj H
     have hnb52 := NB265_266.out
     have hnc52 := NB266_265.out
     exact impl_WalkTable.e1
    rw [if_neg c51] at H
    have c51b0 : ((x9_2.length : Int) == t275) = false := beq_eq_false_iff_ne.mpr c51
    have c51b1 : ((x9_2.length : Int) != t275) = true := bne_iff_ne.mpr c51
    by_cases c61 : x9_2.length < 17592186044416
    rotate_left
    ·rw [if_neg c61] at H
     exact absurd H (by simp)
    rw [if_pos c61] at H
    have LMc61 := Aside0.mk c61
    clear c61
    obtain ⟨y276, hy276⟩ : ∃ y_ : List Int, y_ = (x9_2 ++ [wrap64 ((wrap64 (4 * x10_2)) + t273)]) := ⟨_, rfl⟩
    replace H : ((impl_endOf.f a0_0 a0_1 l0_2 (wrap64 ((wrap64 (4 * x10_2)) + t273))).bind fun t279 => (impl_WalkTable.l0 k2 a3 y276 t279 a0_0 a0_1 l0_2 l1_0)) = some r := by first | (rw [hy276]; with_reducible exact H) | (have H2_ := (Option.bind_some _ _).symm.trans H; rw [hy276]; with_reducible exact H2_) | (have H2_ := (Option.bind_some _ _).symm.trans H; with_reducible exact H2_) | with_reducible exact H | (rw [hy276]; exact H) | exact H
    have Ny276 := Aside0.mk hy276
    clear hy276
    obtain ⟨t279, A62, H⟩ := bi_ H
    have H' := Aside0.mk H
    clear H
    have hnb63 := NB265_266.out
    have hnc63 := NB266_265.out
    obtain ⟨hcz64_0, hcz64_1, hcz64_2, hfz64_0, hfz64_1, hfz64_2⟩ := cz3_ BK265.out
    obtain ⟨hcz65_0, hfz65_0⟩ := cz1_ BK266.out
    go_wp2_with (first | ((with_reducible refine gate_callee (f := 51) rfl ?_); refine gm_ (some 40) Try.func51 #[.agg #[.int .i64 a0_0, .int .i64 a0_1, .slice A0_2 l0_2.length c0_2], .agg #[.slice A1_0 l1_0.length c1_0], .int .i64 x10_2, .int .i64 a3] rfl ?_; (with_reducible refine (impl_PortAt.calls k2 a0_0 a0_1 _ _ l0_2 _ _ l1_0 x10_2 a3 t273 _ ?side1 HC0_2.out ?side3 HC1_0.out A32.out).mono ?_); (case side1 => exact cb_ HR0_2.out HB.out); (case side3 => exact cb_ HR1_0.out HB.out); rintro e w66 ⟨rfl, hb⟩; refine ⟨_, rfl, ?_⟩; replace HO_9 := rb_ HO_9 hb; replace BK265 := kb_ BK265 hb; replace BK266 := kb_ BK266 hb; replace HB := hs_ HB hb; (try clear hb); obtain ⟨hcz67_0, hcz67_1, hcz67_2, hfz67_0, hfz67_1, hfz67_2⟩ := cz3_ BK265.out) | ((with_reducible refine gate_callee (f := 52) rfl ?_); refine gm_ (some 57) Try.func52 #[.agg #[.int .i64 a0_0, .int .i64 a0_1, .slice A0_2 l0_2.length c0_2], .int .i64 (wrap64 ((wrap64 (4 * x10_2)) + t273))] rfl ?_; (with_reducible refine (impl_HasChannel.calls k2 a0_0 a0_1 _ _ l0_2 (wrap64 ((wrap64 (4 * x10_2)) + t273)) true _ ?side1 HC0_2.out A48.out).mono ?_); (case side1 => exact cb_ HR0_2.out HB.out); rintro e w68 ⟨rfl, hb⟩; refine ⟨_, rfl, ?_⟩; replace HO_9 := rb_ HO_9 hb; replace BK265 := kb_ BK265 hb; replace BK266 := kb_ BK266 hb; replace HB := hs_ HB hb; (try clear hb); obtain ⟨Ao69, co69, eo69⟩ := Kd.R_slice HO_9.out; subst eo69; obtain ⟨hcz70_0, hcz70_1, hcz70_2, hfz70_0, hfz70_1, hfz70_2⟩ := cz3_ BK265.out) | (go_at_call 19; (with_reducible refine (impl_NodeCount.calls a0_0 a0_1 t275 _ A50.out).mono ?_); rintro e w71 ⟨rfl, hb⟩; replace HO_9 := rb_ HO_9 hb; replace BK265 := kb_ BK265 hb; replace BK266 := kb_ BK266 hb; replace HB := hs_ HB hb; (try clear hb)) | ((with_reducible refine gate_builtin (b := .append) (xs := #[.tmp 67, .tmp 72]) rfl ?_); (try (refine gate_guard (by rfl) ?_; dsimp only)); at_builtin; refine Kd.R_append (Kd.int .i64) (w0 := w) w.heap.size rfl (.tmp 67) (.tmp 72) 26 3 (.int .i64 0) 8 rfl Try.underlying26 info3 rfl (by decide) (by omega) (.slice Ao69 x9_2.length co69) x9_2 (wrap64 ((wrap64 (4 * x10_2)) + t273)) [.int .i64 (wrap64 ((wrap64 (4 * x10_2)) + t273))] (fun _ => True) (fun _ => False) rfl rfl ?aP (fun _ hk => hk.elim) ?aF ?aO ?aB ?aS ?aL ?_; (case aP => exact rfl); (case aB => exact (by repeat (first | (with_reducible first | exact HB.out | apply below_alloc | apply pw_below_drewN | apply below_drew1 | refine below_set ?_ GE265.out | refine below_set ?_ GE266.out) | exact HB.out))); (case aF => exact (fun _ _ => trivial)); (case aO => exact (ra_ HO_9.out)); (case aS => exact (bz_ HB.out)); (case aL => have := LMc61.out; omega); intro v277 w72 ho hb hg hat; rw [← Ny276.out] at ho; have n0_ := Aside0.mk (blk_grown (g := gb265) (o := .cells #[.int .i64 a0_0, .int .i64 a0_1, .slice A0_2 l0_2.length c0_2] 28 (0, 0)) (by (with_reducible repeat (first | refine blk_drewN ?_ _ | refine blk_drew ?_ | refine blk_alloc ?_ _)); exact BK265.out) hg (Kd.R_ne HO_9.out BK265.out (by decide))); have n1_ := Aside0.mk (blk_grown (g := gb266) (o := .cells #[.slice A1_0 l1_0.length c1_0] 30 (0, 0)) (by (with_reducible repeat (first | refine blk_drewN ?_ _ | refine blk_drew ?_ | refine blk_alloc ?_ _)); exact BK266.out) hg (Kd.R_ne HO_9.out BK266.out (by decide))); have n2_ := Aside0.mk (hb); have n3_ := Aside0.mk (ho); clear BK265; clear BK266; clear HB; clear HO_9; have BK265 := n0_; have BK266 := n1_; have HB := n2_; have HO278 := n3_; clear n0_ n1_ n2_ n3_; clear ho hb hg hat; obtain ⟨hcz73_0, hcz73_1, hcz73_2, hfz73_0, hfz73_1, hfz73_2⟩ := cz3_ BK265.out) | ((with_reducible refine gate_callee (f := 53) rfl ?_); refine gm_ (some 79) Try.func53 #[.agg #[.int .i64 a0_0, .int .i64 a0_1, .slice A0_2 l0_2.length c0_2], .int .i64 (wrap64 ((wrap64 (4 * x10_2)) + t273))] rfl ?_; (with_reducible refine (impl_endOf.calls a0_0 a0_1 _ _ l0_2 (wrap64 ((wrap64 (4 * x10_2)) + t273)) t279 _ ?side1 HC0_2.out A62.out).mono ?_); (case side1 => exact cb_ HR0_2.out HB.out); rintro e w74 ⟨rfl, hb⟩; refine ⟨_, rfl, ?_⟩; replace HO278 := rb_ HO278 hb; replace BK265 := kb_ BK265 hb; replace BK266 := kb_ BK266 hb; replace HB := hs_ HB hb; (try clear hb)))
    go_roundg k2
    case measure => have := HJ4.out; have := HK2.out; omega
    case rel => exact ⟨(y276), (t279), ef_, H', ⟨by have := HJ4.out; have := HK2.out; omega⟩, ⟨ra_ HO278.out⟩, ⟨bq_ BK265.out⟩, ⟨bq_ BK266.out⟩, ⟨bb_ HB.out⟩⟩

end Go.Proofs.Ytchhgfgebomegaa.PFnSends
-- thin
