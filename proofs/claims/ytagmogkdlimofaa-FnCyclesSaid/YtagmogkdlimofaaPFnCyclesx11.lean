/- Each function that the law comes to, as a plain function, with the proof that the call in the model gives what that function says (written by a program of this session out of the translation). No condition. -/
import Derived.Test.YtagmogkdlimofaaPFnCyclesx0
import Derived.Test.YtagmogkdlimofaaPFnCyclesx2
import Derived.Test.YtagmogkdlimofaaPFnCyclesx4
import Derived.Test.YtagmogkdlimofaaPFnCyclesx8
import Derived.Test.YtagmogkdlimofaaPFnCyclesx9
import Derived.Test.YtagmogkdlimofaaPFnCyclesx10
namespace Go.Proofs.Ytagmogkdlimofaa.PFnCycles
open Go.RowKit Go.Proofs.YtagmogkdlimofaaW.PrintWords Go.Proofs.YtagmogkdlimofaaW.PrintLast Go.Proofs.YtagmogkdlimofaaW.PrintMore
attribute [local go_sem] max2_int min2_int max_two min_two max_three min_three max_four min_four   -- for this text's walks alone
set_option linter.unusedVariables false
set_option linter.unusedSimpArgs false

/-! ### laws_FnCycles: function 6 -/
mutual
def laws_FnCycles.j0 : Nat → List (S44) → Bool → List Int → Bool → Option (Bool)
 | 0, _, _, _, _ => none
 | k + 1, x3, x5, x6, x31 => if x31 = true then (none) else (if x5 = true then (some true) else (laws_FnCycles.l0 k x3 x6 0))
def laws_FnCycles.l0 : Nat → List (S44) → List Int → Int → Option (Bool)
 | 0, _, _, _ => none
 | k + 1, x3, x6, x7 => if x7 < (x6.length : Int) then (if 0 ≤ x7 then (if 0 < (x6.length : Int) then (if (rd x6 x7) < (rd x6 0) then (none) else ((impl_StepsBetween.f k x3 (rd x6 x7) (rd x6 x7)).bind fun t308 => (if t308 = (x6.length : Int) then (laws_FnCycles.l0 k x3 x6 (wrap64 (x7 + 1))) else (none)))) else (none)) else (none)) else (laws_FnCycles.l1 k x3 x6 0)
def laws_FnCycles.l1 : Nat → List (S44) → List Int → Int → Option (Bool)
 | 0, _, _, _ => none
 | k + 1, x3, x6, x8 => if x8 < 6 then ((impl_StepsBetween.f k x3 x8 x8).bind fun t309 => (if t309 ≥ 0 then (if t309 < (x6.length : Int) then (none) else (laws_FnCycles.l1 k x3 x6 (wrap64 (x8 + 1)))) else (laws_FnCycles.l1 k x3 x6 (wrap64 (x8 + 1))))) else ((impl_IsCycle.f k x3 x6).bind fun t310 => (some t310))
end
def laws_FnCycles.f (k : Nat) (l0 : List Int) : Option (Bool) := (laws_big.f l0).bind fun t292 => (if t292 = true then (some true) else ((spec_DrawDepends.f k l0).bind fun t293 => ((impl_OrderOf.f k t293).bind fun bt296 => ((impl_ShortestCycle.f k t293).bind fun t300 => (if (bt296.2 != ((t300.length : Int) == 0)) = true then (laws_FnCycles.j0 k t293 bt296.2 t300 true) else ((impl_HasCycle.f k t293).bind fun t303 => (laws_FnCycles.j0 k t293 bt296.2 t300 (bt296.2 == t303))))))))
theorem laws_FnCycles.mono_l : ∀ k, (∀ y0 y1 y2 y3, LeO (laws_FnCycles.j0 k y0 y1 y2 y3) (laws_FnCycles.j0 (k + 1) y0 y1 y2 y3)) ∧ (∀ y0 y1 y2, LeO (laws_FnCycles.l0 k y0 y1 y2) (laws_FnCycles.l0 (k + 1) y0 y1 y2)) ∧ (∀ y0 y1 y2, LeO (laws_FnCycles.l1 k y0 y1 y2) (laws_FnCycles.l1 (k + 1) y0 y1 y2))
 | 0 => ⟨fun _ _ _ _ r h => by simp [laws_FnCycles.j0] at h, fun _ _ _ r h => by simp [laws_FnCycles.l0] at h, fun _ _ _ r h => by simp [laws_FnCycles.l1] at h⟩
 | k + 1 => by
  obtain ⟨ih0, ih1, ih2⟩ := laws_FnCycles.mono_l k
  refine ⟨?_, ?_, ?_⟩
  ·intro y0 y1 y2 y3
   unfold laws_FnCycles.j0
   repeat' first
   | (with_reducible exact ih0 _ _ _ _)
   | (with_reducible exact ih1 _ _ _)
   | (with_reducible exact ih2 _ _ _)
   | (with_reducible exact impl_HasCycle.mono _ _)
   | (with_reducible exact impl_IsCycle.mono _ _ _)
   | (with_reducible exact impl_OrderOf.mono _ _)
   | (with_reducible exact impl_ShortestCycle.mono _ _)
   | (with_reducible exact impl_StepsBetween.mono _ _ _ _)
   | (with_reducible exact spec_DrawDepends.mono _ _)
   | (with_reducible exact LeO.refl _)
   | (with_reducible exact LeO.none _)
   | (with_reducible refine LeO.ite ?_ ?_)
   | (with_reducible refine LeO.bind ?_ (fun _ => ?_))
   | exact ih0 _ _ _ _
   | exact ih1 _ _ _
   | exact ih2 _ _ _
   | exact impl_HasCycle.mono _ _
   | exact impl_IsCycle.mono _ _ _
   | exact impl_OrderOf.mono _ _
   | exact impl_ShortestCycle.mono _ _
   | exact impl_StepsBetween.mono _ _ _ _
   | exact spec_DrawDepends.mono _ _
   | exact LeO.none _
   | refine LeO.ite ?_ ?_
   | refine LeO.bind ?_ (fun _ => ?_)
  ·intro y0 y1 y2
   unfold laws_FnCycles.l0
   repeat' first
   | (with_reducible exact ih0 _ _ _ _)
   | (with_reducible exact ih1 _ _ _)
   | (with_reducible exact ih2 _ _ _)
   | (with_reducible exact impl_HasCycle.mono _ _)
   | (with_reducible exact impl_IsCycle.mono _ _ _)
   | (with_reducible exact impl_OrderOf.mono _ _)
   | (with_reducible exact impl_ShortestCycle.mono _ _)
   | (with_reducible exact impl_StepsBetween.mono _ _ _ _)
   | (with_reducible exact spec_DrawDepends.mono _ _)
   | (with_reducible exact LeO.refl _)
   | (with_reducible exact LeO.none _)
   | (with_reducible refine LeO.ite ?_ ?_)
   | (with_reducible refine LeO.bind ?_ (fun _ => ?_))
   | exact ih0 _ _ _ _
   | exact ih1 _ _ _
   | exact ih2 _ _ _
   | exact impl_HasCycle.mono _ _
   | exact impl_IsCycle.mono _ _ _
   | exact impl_OrderOf.mono _ _
   | exact impl_ShortestCycle.mono _ _
   | exact impl_StepsBetween.mono _ _ _ _
   | exact spec_DrawDepends.mono _ _
   | exact LeO.none _
   | refine LeO.ite ?_ ?_
   | refine LeO.bind ?_ (fun _ => ?_)
  ·intro y0 y1 y2
   unfold laws_FnCycles.l1
   repeat' first
   | (with_reducible exact ih0 _ _ _ _)
   | (with_reducible exact ih1 _ _ _)
   | (with_reducible exact ih2 _ _ _)
   | (with_reducible exact impl_HasCycle.mono _ _)
   | (with_reducible exact impl_IsCycle.mono _ _ _)
   | (with_reducible exact impl_OrderOf.mono _ _)
   | (with_reducible exact impl_ShortestCycle.mono _ _)
   | (with_reducible exact impl_StepsBetween.mono _ _ _ _)
   | (with_reducible exact spec_DrawDepends.mono _ _)
   | (with_reducible exact LeO.refl _)
   | (with_reducible exact LeO.none _)
   | (with_reducible refine LeO.ite ?_ ?_)
   | (with_reducible refine LeO.bind ?_ (fun _ => ?_))
   | exact ih0 _ _ _ _
   | exact ih1 _ _ _
   | exact ih2 _ _ _
   | exact impl_HasCycle.mono _ _
   | exact impl_IsCycle.mono _ _ _
   | exact impl_OrderOf.mono _ _
   | exact impl_ShortestCycle.mono _ _
   | exact impl_StepsBetween.mono _ _ _ _
   | exact spec_DrawDepends.mono _ _
   | exact LeO.none _
   | refine LeO.ite ?_ ?_
   | refine LeO.bind ?_ (fun _ => ?_)
theorem laws_FnCycles.mono : ∀ a0 k, LeO (laws_FnCycles.f k a0) (laws_FnCycles.f (k + 1) a0) := by
 intro a0 k
 obtain ⟨ih0, ih1, ih2⟩ := laws_FnCycles.mono_l k
 unfold laws_FnCycles.f
 repeat' first
   | (with_reducible exact ih0 _ _ _ _)
   | (with_reducible exact ih1 _ _ _)
   | (with_reducible exact ih2 _ _ _)
   | (with_reducible exact impl_HasCycle.mono _ _)
   | (with_reducible exact impl_IsCycle.mono _ _ _)
   | (with_reducible exact impl_OrderOf.mono _ _)
   | (with_reducible exact impl_ShortestCycle.mono _ _)
   | (with_reducible exact impl_StepsBetween.mono _ _ _ _)
   | (with_reducible exact spec_DrawDepends.mono _ _)
   | (with_reducible exact LeO.refl _)
   | (with_reducible exact LeO.none _)
   | (with_reducible refine LeO.ite ?_ ?_)
   | (with_reducible refine LeO.bind ?_ (fun _ => ?_))
   | exact ih0 _ _ _ _
   | exact ih1 _ _ _
   | exact ih2 _ _ _
   | exact impl_HasCycle.mono _ _
   | exact impl_IsCycle.mono _ _ _
   | exact impl_OrderOf.mono _ _
   | exact impl_ShortestCycle.mono _ _
   | exact impl_StepsBetween.mono _ _ _ _
   | exact spec_DrawDepends.mono _ _
   | exact LeO.none _
   | refine LeO.ite ?_ ?_
   | refine LeO.bind ?_ (fun _ => ?_)
def laws_FnCycles.T13 : Bool × List (List Nat × List Nat) := (true, [([], []), ([], []), ([0, 1], [0, 1]), ([2], [2]), ([], []), ([4], [4]), ([5], [5]), ([3, 6], [3, 6]), ([7], [7]), ([8], [8]), ([8], [8]), ([8], [8]), ([10, 11, 8], [8, 10, 11]), ([12, 8], [8, 12]), ([8], [8]), ([8], [8]), ([14, 15, 8], [8, 14, 15]), ([16, 8], [8, 16]), ([9, 13, 17, 8, 8], [8, 9, 13, 17]), ([8], [8]), ([19, 8], [8, 19]), ([18, 20, 8], [8, 18, 20]), ([8, 21], [8, 21])])
def laws_FnCycles.B13 : List Nat := [0, 0, 3, 7, 0, 16, 48, 127, 255, 511, 511, 511, 3583, 7679, 511, 511, 49663, 115199, 262143, 511, 524799, 2097151, 4194303]
theorem laws_FnCycles.tab13 : rtab .any (opsOf Try.f6 13) = laws_FnCycles.T13 := by kernel_rfl
theorem laws_FnCycles.bits13 : waitsOk laws_FnCycles.T13.2 laws_FnCycles.B13 = true := by kernel_rfl
theorem laws_FnCycles.e0 {P : Prop} (h : P := by
 go_wp2_with (first | ((with_reducible refine gate_callee (f := 13) rfl ?_); refine gm_ (some 69) Try.func13 #[.slice Ao9 t293.length co9, .int .i64 x8_3, .int .i64 x8_3] rfl ?_; (with_reducible refine (impl_StepsBetween.calls k3 _ _ t293 x8_3 x8_3 t309 _ ?side1 ?side2 A30.out).mono ?_); (case side1 => repeat (first | exact (Kd.R_reads' HO_3.out).2.2 | (with_reducible refine Kd.C_alloc ?_ _) | (with_reducible refine Kd.C_drewN ?_ _) | (with_reducible refine Kd.C_drew ?_))); (case side2 => exact (Kd.R_reads' HO_3.out).2.1); rintro e w_0 ⟨rfl, hb⟩; refine ⟨_, rfl, ?_⟩; replace HO_3 := Aside0.mk (Kd.R_below (ra_ HO_3.out) hb); replace HO_6 := Aside0.mk (Kd.R_below (ra_ HO_6.out) hb); replace HB := Aside0.mk (bs_ HB.out hb); (try clear hb)))
 go_roundg k3
 case measure => have := HJ6.out; have := HK2.out; have := HK3.out; omega
 case rel => exact ⟨(wrap64 (x8_3 + 1)), ef_, H', ⟨by have := HJ6.out; have := HK2.out; have := HK3.out; omega⟩, ⟨by (with_reducible repeat (first | apply Kd.R_alloc | apply Kd.R_drewN | apply Kd.R_drew)); exact HO_3.out⟩, ⟨by (with_reducible repeat (first | apply Kd.R_alloc | apply Kd.R_drewN | apply Kd.R_drew)); exact HO_6.out⟩, ⟨bb_ HB.out⟩⟩) : P := h
set_option maxHeartbeats 8000000 in
set_option maxRecDepth 100000 in
theorem laws_FnCycles.calls (k : Nat) (A0 : Option Addr) (c0 : Nat) (l0 : List Int) (r : Bool) (w : World) (hr0 : Kd.C (Kd.int .u8) w A0 l0.length l0) (hc0 : l0.length ≤ c0) (h : laws_FnCycles.f k l0 = some r) :
  Calls Try.prog 6 #[.slice A0 l0.length c0] w fun e w' => e = .returned (.bool r) ∧ Below w.heap.size w w' := by
 have HR0 := Aside0.mk hr0
 have HC0 := Aside0.mk hc0
 clear hr0 hc0
 have HB := Aside0.mk (Below.refl w.heap.size w)
 have H : ((laws_big.f l0).bind fun t292 => (if t292 = true then (some true) else ((spec_DrawDepends.f k l0).bind fun t293 => ((impl_OrderOf.f k t293).bind fun bt296 => ((impl_ShortestCycle.f k t293).bind fun t300 => (if (bt296.2 != ((t300.length : Int) == 0)) = true then (laws_FnCycles.j0 k t293 bt296.2 t300 true) else ((impl_HasCycle.f k t293).bind fun t303 => (laws_FnCycles.j0 k t293 bt296.2 t300 (bt296.2 == t303))))))))) = some r := h
 clear h
 replace H := Option.bind_eq_some_iff.mp H
 obtain ⟨t292, A20, H⟩ := H
 try dsimp only at H
 have A2 := Aside0.mk A20
 clear A20
 by_cases c3 : t292 = true
 ·subst c3
  rw [if_pos rfl] at H
  obtain rfl := Option.some.inj H
  go_enter Try.func6, Try.ntmps6
  go_wp2_with (first | ((with_reducible refine gate_callee (f := 10) rfl ?_); refine gm_ (some 11) Try.func10 #[.slice A0 l0.length c0] rfl ?_; (with_reducible refine (laws_big.calls _ _ l0 true _ ?side1 HC0.out A2.out).mono ?_); (case side1 => repeat (first | exact HR0.out | (with_reducible refine Kd.C_alloc ?_ _) | (with_reducible refine Kd.C_drewN ?_ _) | (with_reducible refine Kd.C_drew ?_))); rintro e w' ⟨rfl, ⟨nd, rfl⟩⟩; refine ⟨_, rfl, ?_⟩))
  go_ret
  exact ⟨fin_, bb_ HB.out⟩
 ·replace c3 := Bool.eq_false_iff.mpr c3
  subst c3
  rw [if_neg (show ¬ (false = true) by decide)] at H
  replace H := Option.bind_eq_some_iff.mp H
  obtain ⟨t293, A40, H⟩ := H
  try dsimp only at H
  have A4 := Aside0.mk A40
  clear A40
  replace H := Option.bind_eq_some_iff.mp H
  obtain ⟨⟨t296, t297⟩, A50, H⟩ := H
  try dsimp only at H
  have A5 := Aside0.mk A50
  clear A50
  replace H := Option.bind_eq_some_iff.mp H
  obtain ⟨t300, A60, H⟩ := H
  try dsimp only at H
  have A6 := Aside0.mk A60
  clear A60
  have HC7 := Aside0.mk H
  clear H
  go_enter Try.func6, Try.ntmps6
  go_upto_region 6 with (first | ((with_reducible refine gate_callee (f := 10) rfl ?_); refine gm_ (some 11) Try.func10 #[.slice A0 l0.length c0] rfl ?_; (with_reducible refine (laws_big.calls _ _ l0 false _ ?side1 HC0.out A2.out).mono ?_); (case side1 => repeat (first | exact HR0.out | (with_reducible refine Kd.C_alloc ?_ _) | (with_reducible refine Kd.C_drewN ?_ _) | (with_reducible refine Kd.C_drew ?_))); rintro e w' ⟨rfl, ⟨nd, rfl⟩⟩; refine ⟨_, rfl, ?_⟩) | ((with_reducible refine gate_callee (f := 11) rfl ?_); refine gm_ (some 13) Try.func11 #[.slice A0 l0.length c0] rfl ?_; (with_reducible refine (spec_DrawDepends.calls k _ _ l0 t293 _ ?side1 HC0.out A4.out).mono ?_); (case side1 => repeat (first | exact HR0.out | (with_reducible refine Kd.C_alloc ?_ _) | (with_reducible refine Kd.C_drewN ?_ _) | (with_reducible refine Kd.C_drew ?_))); rintro e w8 ⟨v294, rfl, ho0, hb⟩; refine ⟨_, rfl, ?_⟩; have HO295 := Aside0.mk (Kd.R_lower ho0 (bz_ HB.out)); replace HB := Aside0.mk (bs_ HB.out hb); (try clear hb); (try clear ho0); obtain ⟨Ao9, co9, eo9⟩ := Kd.R_slice HO295.out; subst eo9) | ((with_reducible refine gate_callee (f := 20) rfl ?_); refine gm_ (some 16) Try.func20 #[.slice Ao9 t293.length co9] rfl ?_; (with_reducible refine (impl_OrderOf.calls k _ _ t293 t296 t297 _ ?side1 ?side2 A5.out).mono ?_); (case side1 => repeat (first | exact (Kd.R_reads' HO295.out).2.2 | (with_reducible refine Kd.C_alloc ?_ _) | (with_reducible refine Kd.C_drewN ?_ _) | (with_reducible refine Kd.C_drew ?_))); (case side2 => exact (Kd.R_reads' HO295.out).2.1); rintro e w10 ⟨v298, rfl, ho0, hb⟩; refine ⟨_, rfl, ?_⟩; replace HO295 := Aside0.mk (Kd.R_below (ra_ HO295.out) hb); have HO299 := Aside0.mk (Kd.R_lower ho0 (bz_ HB.out)); replace HB := Aside0.mk (bs_ HB.out hb); (try clear hb); (try clear ho0)) | ((with_reducible refine gate_callee (f := 21) rfl ?_); refine gm_ (some 20) Try.func21 #[.slice Ao9 t293.length co9] rfl ?_; (with_reducible refine (impl_ShortestCycle.calls k _ _ t293 t300 _ ?side1 ?side2 A6.out).mono ?_); (case side1 => repeat (first | exact (Kd.R_reads' HO295.out).2.2 | (with_reducible refine Kd.C_alloc ?_ _) | (with_reducible refine Kd.C_drewN ?_ _) | (with_reducible refine Kd.C_drew ?_))); (case side2 => exact (Kd.R_reads' HO295.out).2.1); rintro e w11 ⟨v301, rfl, ho0, hb⟩; refine ⟨_, rfl, ?_⟩; replace HO295 := Aside0.mk (Kd.R_below (ra_ HO295.out) hb); have HO302 := Aside0.mk (Kd.R_lower (Kd.R_new' ho0 (rl_ HO299.out)) (bz_ HB.out)); replace HO299 := Aside0.mk (Kd.R_elder' (ra_ HO299.out) (Kd.R_base ho0) hb); replace HB := Aside0.mk (bs_ HB.out hb); (try clear hb); (try clear ho0)))
  (try simp only [Act.put, List.setIfInBounds_toArray, List.set_cons_zero, List.set_cons_succ])
  go_cut [31] (fun v31 wc => ∃ (kq : Nat) (x31_6 : Bool), v31 = .bool x31_6 ∧ Aside0 (laws_FnCycles.j0 kq t293 t297 t300 x31_6 = some r) ∧ Aside0 (kq ≤ k) ∧ Aside0 (Kd.R k44 44 wc w.heap.size (fun _ => True) (.slice Ao9 t293.length co9) t293) ∧ Aside0 (Kd.R (Kd.int .i64) 3 wc w.heap.size (fun _ => True) v301 t300) ∧ Aside0 (Below w.heap.size w wc))
  case first =>
   have H := HC7.out
   clear HC7
   by_cases c12 : (t297 != ((t300.length : Int) == 0)) = true
   ·rw [if_pos c12] at H
    have c12b0 : (t297 != ((t300.length : Int) == 0)) = true := c12
    (try (have c12b1 : decide (t297 = ((t300.length : Int) == 0)) = false := by simpa using c12))
    (try (have c12b2 : (t297 == ((t300.length : Int) == 0)) = false := by simpa using c12))
    (try (have c12b3 : ¬ (t297 = ((t300.length : Int) == 0)) := by simpa using c12))
    clear c12
    (first | rw [c12b0] | (simp only [i64_w, i32_w]; rw [c12b0]) | skip)
    have H' := Aside0.mk H
    clear H
    obtain ⟨Ao13, co13, eo13⟩ := Kd.R_slice HO302.out
    subst eo13
    go_wp2
    go_meet
    case rel => exact ⟨_, (true), ef_, H', ⟨kq_⟩, ⟨by (with_reducible repeat (first | apply Kd.R_alloc | apply Kd.R_drewN | apply Kd.R_drew)); exact HO295.out⟩, ⟨by (with_reducible repeat (first | apply Kd.R_alloc | apply Kd.R_drewN | apply Kd.R_drew)); exact Kd.R_mono HO302.out (fun _ hk => trivial)⟩, ⟨bb_ HB.out⟩⟩
   ·rw [if_neg c12] at H
    have c12b0 : (t297 != ((t300.length : Int) == 0)) = false := by simpa using c12
    (try (have c12b1 : decide (t297 = ((t300.length : Int) == 0)) = true := by simpa using c12))
    (try (have c12b2 : (t297 == ((t300.length : Int) == 0)) = true := by simpa using c12))
    clear c12
    (first | rw [c12b0] | (simp only [i64_w, i32_w]; rw [c12b0]) | skip)
    replace H := Option.bind_eq_some_iff.mp H
    obtain ⟨t303, A140, H⟩ := H
    try dsimp only at H
    have A14 := Aside0.mk A140
    clear A140
    have H' := Aside0.mk H
    clear H
    obtain ⟨Ao15, co15, eo15⟩ := Kd.R_slice HO302.out
    subst eo15
    go_wp2_with (first | (go_at_call 19; (with_reducible refine (impl_HasCycle.calls k _ _ t293 t303 _ ?side1 ?side2 A14.out).mono ?_); (case side1 => repeat (first | exact (Kd.R_reads' HO295.out).2.2 | (with_reducible refine Kd.C_alloc ?_ _) | (with_reducible refine Kd.C_drewN ?_ _) | (with_reducible refine Kd.C_drew ?_))); (case side2 => exact (Kd.R_reads' HO295.out).2.1); rintro e w16 ⟨rfl, hb⟩; replace HO295 := Aside0.mk (Kd.R_below (ra_ HO295.out) hb); replace HO299 := Aside0.mk (Kd.R_below (ra_ HO299.out) hb); replace HO302 := Aside0.mk (Kd.R_below (ra_ HO302.out) hb); replace HB := Aside0.mk (bs_ HB.out hb); (try clear hb)))
    go_meet
    case rel => exact ⟨_, ((t297 == t303)), ef_, H', ⟨kq_⟩, ⟨by (with_reducible repeat (first | apply Kd.R_alloc | apply Kd.R_drewN | apply Kd.R_drew)); exact HO295.out⟩, ⟨by (with_reducible repeat (first | apply Kd.R_alloc | apply Kd.R_drewN | apply Kd.R_drew)); exact Kd.R_mono HO302.out (fun _ hk => trivial)⟩, ⟨bb_ HB.out⟩⟩
  case rest =>
   clear HC7
   try clear c3
   obtain ⟨kq, x31_6, rfl, HA, HJ6, HO_3, HO_6, HB⟩ := hcut
   cases kq with
   | zero => exact absurd HA.out (by simp [laws_FnCycles.j0])
   | succ kj6 =>
    have H := HA.out
    clear HA
    simp only [laws_FnCycles.j0] at H
    by_cases c17 : x31_6 = true
    ·subst c17
     rw [if_pos rfl] at H
     exact absurd H (by simp)
    ·replace c17 := Bool.eq_false_iff.mpr c17
     subst c17
     rw [if_neg (show ¬ (false = true) by decide)] at H
     by_cases c18 : t297 = true
     ·subst c18
      rw [if_pos rfl] at H
      obtain rfl := Option.some.inj H
      go_wp2
      go_ret
      exact ⟨fin_, bb_ HB.out⟩
     ·replace c18 := Bool.eq_false_iff.mpr c18
      subst c18
      rw [if_neg (show ¬ (false = true) by decide)] at H
      have H' := Aside0.mk H
      clear H
      go_wp2
      go_loopg [7] kj6 (fun kq v7 w' => ∃ (x7_2 : Int), v7 = .int .i64 x7_2 ∧ Aside0 (laws_FnCycles.l0 kq t293 t300 x7_2 = some r) ∧ Aside0 (kq ≤ kj6) ∧ Aside0 (Kd.R k44 44 w' w.heap.size (fun _ => True) (.slice Ao9 t293.length co9) t293) ∧ Aside0 (Kd.R (Kd.int .i64) 3 w' w.heap.size (fun _ => True) v301 t300) ∧ Aside0 (Below w.heap.size w w'))
      case atStart => exact ⟨(0), ef_, H', ⟨Nat.le_refl _⟩, ⟨by (with_reducible repeat (first | apply Kd.R_alloc | apply Kd.R_drewN | apply Kd.R_drew)); exact HO_3.out⟩, ⟨by (with_reducible repeat (first | apply Kd.R_alloc | apply Kd.R_drewN | apply Kd.R_drew)); exact HO_6.out⟩, ⟨bb_ HB.out⟩⟩
      case round =>
       clear H'
       try clear c3
       try clear c17
       try clear c18
       obtain ⟨x7_2, rfl, HA, HK2, HO_3, HO_6, HB⟩ := hrel
       cases gk with
       | zero => exact absurd HA.out (by simp [laws_FnCycles.l0])
       | succ k2 =>
        have H := HA.out
        clear HA
        simp only [laws_FnCycles.l0] at H
        by_cases c19 : x7_2 < (t300.length : Int)
        ·rw [if_pos c19] at H
         have c19b0 : decide (x7_2 < (t300.length : Int)) = true := decide_eq_true c19
         clear c19
         by_cases c20 : 0 ≤ x7_2
         ·rw [if_pos c20] at H
          have c20b0 : decide (0 ≤ x7_2) = true := decide_eq_true c20
          clear c20
          by_cases c21 : 0 < (t300.length : Int)
          ·rw [if_pos c21] at H
           have c21b0 : decide (0 < (t300.length : Int)) = true := decide_eq_true c21
           have c21b1 : decide (0 < t300.length) = true := decide_eq_true (by omega)
           clear c21
           by_cases c22 : (rd t300 x7_2) < (rd t300 0)
           ·rw [if_pos c22] at H
            exact absurd H (by simp)
           ·rw [if_neg c22] at H
            have c22b0 : decide ((rd t300 x7_2) < (rd t300 0)) = false := decide_eq_false c22
            clear c22
            replace H := Option.bind_eq_some_iff.mp H
            obtain ⟨t308, A230, H⟩ := H
            try dsimp only at H
            have A23 := Aside0.mk A230
            clear A230
            by_cases c24 : t308 = (t300.length : Int)
            ·rw [if_pos c24] at H
             have c24b0 : (t308 == (t300.length : Int)) = true := beq_iff_eq.mpr c24
             have c24b1 : (t308 != (t300.length : Int)) = false := bne_eq_false_iff_eq.mpr c24
             clear c24
             have H' := Aside0.mk H
             clear H
             obtain ⟨Ao25, co25, eo25⟩ := Kd.R_slice HO_6.out
             subst eo25
             try go_wp2
             have n0_ := Aside0.mk (Kd.R_drew HO_3.out)
             have n1_ := Aside0.mk (Kd.R_drew HO_6.out)
             have n2_ := Aside0.mk (below_drew1 HB.out)
             clear HO_3
             clear HO_6
             clear HB
             have HO_3 := n0_
             have HO_6 := n1_
             have HB := n2_
             clear n0_ n1_ n2_
             have p304 : 0 ≤ (x7_2 : Int) := of_decide_eq_true dg_
             have q304 : x7_2 < (t300.length : Int) := of_decide_eq_true dg_
             obtain ⟨ad304, e304, hx304_0⟩ := Kd.at_int (Kd.R_reads' HO_6.out).2.2 x7_2 p304 q304
             cases e304
             replace p304 := eq_true p304
             replace q304 := eq_true q304
             have p305 : 0 ≤ (0 : Int) := (by omega)
             have q305 : 0 < (t300.length : Int) := of_decide_eq_true dg_
             obtain ⟨ad305, e305, hx305_0⟩ := Kd.at_int (Kd.R_reads' HO_6.out).2.2 0 p305 q305
             obtain rfl : ad304 = ad305 := (by injection e305)
             have qi305 : (0 < t300.length) = True := eq_true (by omega)
             (try rw [show ((0 : Int)).toNat = 0 from rfl] at hx305_0)
             (try rw [Addr.add_zero'] at hx305_0)
             replace p305 := eq_true p305
             replace q305 := eq_true q305
             have p306 : 0 ≤ (x7_2 : Int) := of_decide_eq_true dg_
             have q306 : x7_2 < (t300.length : Int) := of_decide_eq_true dg_
             obtain ⟨ad306, e306, hx306_0⟩ := Kd.at_int (Kd.R_reads' HO_6.out).2.2 x7_2 p306 q306
             obtain rfl : ad304 = ad306 := (by injection e306)
             replace p306 := eq_true p306
             replace q306 := eq_true q306
             have p307 : 0 ≤ (x7_2 : Int) := of_decide_eq_true dg_
             have q307 : x7_2 < (t300.length : Int) := of_decide_eq_true dg_
             obtain ⟨ad307, e307, hx307_0⟩ := Kd.at_int (Kd.R_reads' HO_6.out).2.2 x7_2 p307 q307
             obtain rfl : ad304 = ad307 := (by injection e307)
             replace p307 := eq_true p307
             replace q307 := eq_true q307
             refine start_ (n := 23) (S := fun w' => w'.cell? (ad304.add (x7_2).toNat) = some (.int .i64 (rd t300 x7_2)) ∧ w'.cell? ad304 = some (.int .i64 (rd t300 0)) ∧ w'.cell? (ad304.add (x7_2).toNat) = some (.int .i64 (rd t300 x7_2)) ∧ w'.cell? (ad304.add (x7_2).toNat) = some (.int .i64 (rd t300 x7_2))) (ds := []) #[false, false, false, false, false, false, false, false, false, false, false, false, false, false, false, false, false, false, false, false, false, false, false] (by kernel_rfl) rfl rfl ⟨hx304_0, hx305_0, hx306_0, hx307_0⟩ (fun hHeld => ?_); refine with_tabW laws_FnCycles.tab13 laws_FnCycles.bits13 (fun HT_ HW_ => ?_)
             generalize wr.drew = w26 at HO_3 HO_6 HB hx304_0 hx305_0 hx306_0 hx307_0 hHeld ⊢
             refine pu_ 0 39 (bt_ 23 1) HT_ ?_
             refine pu_ 1 40 (bt_ 23 3) HT_ ?_
             refine pu_ 2 41 (bt_ 23 7) HT_ ?_
             refine pu_ 4 43 (bt_ 23 23) HT_ ?_
             refine pu_ 5 44 (bt_ 23 55) HT_ ?_
             refine take_ (i := 3) (N := some 42) (v := ?_) (a' := ?_) (bt_ 23 63) rfl rfl (take_ofW HT_.out HW_.out (by kernel_rfl)) (fun _ _ _ h => h) (Or.inl ⟨by rfl, ?_⟩) hHeld ?_ ?_
             rotate_left
             ·rintro w' ⟨s0, s1, s2, s3⟩
              go_simp
              with_reducible rfl
             rotate_left
             ·simp only [Act.put, List.setIfInBounds_toArray, List.set_cons_zero, List.set_cons_succ, i64_w, i32_w]
              rfl
             refine take_ (i := 6) (N := some 45) (v := ?_) (a' := ?_) (bt_ 23 127) rfl rfl (take_ofW HT_.out HW_.out (by kernel_rfl)) (fun _ _ _ h => h) (Or.inl ⟨by rfl, ?_⟩) hHeld ?_ ?_
             rotate_left
             ·rintro w' ⟨s0, s1, s2, s3⟩
              go_simp
              with_reducible rfl
             rotate_left
             ·simp only [Act.put, List.setIfInBounds_toArray, List.set_cons_zero, List.set_cons_succ, i64_w, i32_w]
              rfl
             refine pu_ 7 46 (bt_ 23 255) HT_ ?_
             refine pu_ 8 47 (bt_ 23 511) HT_ ?_
             refine pu_ 9 48 (bt_ 23 1023) HT_ ?_
             refine pu_ 10 49 (bt_ 23 2047) HT_ ?_
             refine pu_ 11 50 (bt_ 23 4095) HT_ ?_
             refine pu_ 12 51 (bt_ 23 8191) HT_ ?_
             refine pu_ 14 53 (bt_ 23 24575) HT_ ?_
             refine pu_ 15 54 (bt_ 23 57343) HT_ ?_
             refine pu_ 16 55 (bt_ 23 122879) HT_ ?_
             refine pu_ 19 58 (bt_ 23 647167) HT_ ?_
             refine pu_ 20 59 (bt_ 23 1695743) HT_ ?_
             refine take_ (i := 13) (N := some 52) (v := ?_) (a' := ?_) (bt_ 23 1703935) rfl rfl (take_ofW HT_.out HW_.out (by kernel_rfl)) (fun _ _ _ h => h) (Or.inl ⟨by rfl, ?_⟩) hHeld ?_ ?_
             rotate_left
             ·rintro w' ⟨s0, s1, s2, s3⟩
              go_simp
              with_reducible rfl
             rotate_left
             ·simp only [Act.put, List.setIfInBounds_toArray, List.set_cons_zero, List.set_cons_succ, i64_w, i32_w]
              rfl
             refine take_ (i := 17) (N := some 56) (v := ?_) (a' := ?_) (bt_ 23 1835007) rfl rfl (take_ofW HT_.out HW_.out (by kernel_rfl)) (fun _ _ _ h => h) (Or.inl ⟨by rfl, ?_⟩) hHeld ?_ ?_
             rotate_left
             ·rintro w' ⟨s0, s1, s2, s3⟩
              go_simp
              with_reducible rfl
             rotate_left
             ·simp only [Act.put, List.setIfInBounds_toArray, List.set_cons_zero, List.set_cons_succ, i64_w, i32_w]
              rfl
             refine one_ (i := 18) (N := some 57) (bt_ 23 2097151) rfl rfl (one_of HT_.out (by kernel_rfl)) (by decide) (fun K hK => ?_)
             refine goes_ Try.func13 (by kernel_rfl) rfl #[.slice Ao9 t293.length co9, .int .i64 (rd t300 x7_2), .int .i64 (rd t300 x7_2)] (by rfl) rfl rfl (by (try simp only [List.map_toArray, List.map_cons, List.map_nil]); first | done | rfl | (simp only [List.length_drop, List.length_take]; rfl)) ?_
             with_reducible refine (impl_StepsBetween.calls k2 _ _ t293 (rd t300 x7_2) (rd t300 x7_2) t308 _ ?side1 ?side2 A23.out).mono ?_
             (case side1 => repeat (first | exact (Kd.R_reads' HO_3.out).2.2 | (with_reducible refine Kd.C_alloc ?_ _) | (with_reducible refine Kd.C_drewN ?_ _) | (with_reducible refine Kd.C_drew ?_)))
             (case side2 => exact (Kd.R_reads' HO_3.out).2.1)
             rintro e w27 ⟨rfl, hb⟩
             have HS0_ := (hb.cell (World.block_lt_of_cell? _ _ (hHeld.1))).trans (hHeld.1)
             have HS1_ := (hb.cell (World.block_lt_of_cell? _ _ (hHeld.2.1))).trans (hHeld.2.1)
             have HS2_ := (hb.cell (World.block_lt_of_cell? _ _ (hHeld.2.2.1))).trans (hHeld.2.2.1)
             have HS3_ := (hb.cell (World.block_lt_of_cell? _ _ (hHeld.2.2.2))).trans (hHeld.2.2.2)
             refine ⟨_, rfl, ?_⟩
             have n0_ := Aside0.mk (Kd.R_below (ra_ HO_3.out) hb)
             have n1_ := Aside0.mk (Kd.R_below (ra_ HO_6.out) hb)
             have n2_ := Aside0.mk (bs_ HB.out hb)
             clear HO_3
             clear HO_6
             clear HB
             have HO_3 := n0_
             have HO_6 := n1_
             have HB := n2_
             clear n0_ n1_ n2_
             (try clear hb)
             (try clear hb2)
             (try clear hk)
             (try clear hi)
             refine hK.out _ _ ⟨HS0_, HS1_, HS2_, HS3_⟩ (fun hHeld => ?_)
             clear hK K
             refine norm_ (a' := ?_) ?_ ?_
             rotate_left
             ·show Act.put _ (some 57) _ = _
              simp only [Act.put, List.setIfInBounds_toArray, List.set_cons_zero, List.set_cons_succ, i64_w, i32_w]
              rfl
             refine pu_ 21 60 (bt_ 23 4194303) HT_ ?_
             refine pu_ 22 61 (bt_ 23 8388607) HT_ ?_
             refine done_ (done_of HT_.out (by kernel_rfl)) ?_
             try go_wp2
             go_roundg k2
             case measure => have := HJ6.out; have := HK2.out; omega
             case rel => exact ⟨(wrap64 (x7_2 + 1)), ef_, H', ⟨by have := HJ6.out; have := HK2.out; omega⟩, ⟨by (with_reducible repeat (first | apply Kd.R_alloc | apply Kd.R_drewN | apply Kd.R_drew)); exact HO_3.out⟩, ⟨by (with_reducible repeat (first | apply Kd.R_alloc | apply Kd.R_drewN | apply Kd.R_drew)); exact HO_6.out⟩, ⟨bb_ HB.out⟩⟩
            ·rw [if_neg c24] at H
             exact absurd H (by simp)
          ·rw [if_neg c21] at H
           exact absurd H (by simp)
         ·rw [if_neg c20] at H
          exact absurd H (by simp)
        ·rw [if_neg c19] at H
         have c19b0 : decide (x7_2 < (t300.length : Int)) = false := decide_eq_false c19
         clear c19
         have H' := Aside0.mk H
         clear H
         obtain ⟨Ao28, co28, eo28⟩ := Kd.R_slice HO_6.out
         subst eo28
         go_wp2
         go_loopg [8] k2 (fun kq v8 w' => ∃ (x8_3 : Int), v8 = .int .i64 x8_3 ∧ Aside0 (laws_FnCycles.l1 kq t293 t300 x8_3 = some r) ∧ Aside0 (kq ≤ k2) ∧ Aside0 (Kd.R k44 44 w' w.heap.size (fun _ => True) (.slice Ao9 t293.length co9) t293) ∧ Aside0 (Kd.R (Kd.int .i64) 3 w' w.heap.size (fun _ => True) (.slice Ao28 t300.length co28) t300) ∧ Aside0 (Below w.heap.size w w'))
         case atStart => exact ⟨(0), ef_, H', ⟨Nat.le_refl _⟩, ⟨by (with_reducible repeat (first | apply Kd.R_alloc | apply Kd.R_drewN | apply Kd.R_drew)); exact HO_3.out⟩, ⟨by (with_reducible repeat (first | apply Kd.R_alloc | apply Kd.R_drewN | apply Kd.R_drew)); exact HO_6.out⟩, ⟨bb_ HB.out⟩⟩
         case round =>
          clear H'
          try clear c3
          try clear c17
          try clear c18
          try clear c19
          try clear c19b0
          obtain ⟨x8_3, rfl, HA, HK3, HO_3, HO_6, HB⟩ := hrel
          cases gk with
          | zero => exact absurd HA.out (by simp [laws_FnCycles.l1])
          | succ k3 =>
           have H := HA.out
           clear HA
           simp only [laws_FnCycles.l1] at H
           by_cases c29 : x8_3 < 6
           ·rw [if_pos c29] at H
            have c29b0 : decide (x8_3 < 6) = true := decide_eq_true c29
            clear c29
            replace H := Option.bind_eq_some_iff.mp H
            obtain ⟨t309, A300, H⟩ := H
            try dsimp only at H
            have A30 := Aside0.mk A300
            clear A300
            by_cases c31 : t309 ≥ 0
            ·rw [if_pos c31] at H
             have c31b0 : decide (0 ≤ t309) = true := decide_eq_true c31
             clear c31
             by_cases c32 : t309 < (t300.length : Int)
             ·rw [if_pos c32] at H
              exact absurd H (by simp)
             ·rw [if_neg c32] at H
              have c32b0 : decide (t309 < (t300.length : Int)) = false := decide_eq_false c32
              clear c32
              have H' := Aside0.mk H
              clear H
              exact laws_FnCycles.e0
            ·rw [if_neg c31] at H
             have c31b0 : decide (0 ≤ t309) = false := decide_eq_false c31
             clear c31
             have H' := Aside0.mk H
             clear H
             exact laws_FnCycles.e0
           ·rw [if_neg c29] at H
            have c29b0 : decide (x8_3 < 6) = false := decide_eq_false c29
            clear c29
            replace H := Option.bind_eq_some_iff.mp H
            obtain ⟨t310, A350, H⟩ := H
            try dsimp only at H
            have A35 := Aside0.mk A350
            clear A350
            obtain rfl := Option.some.inj H
            go_wp2_with (first | ((with_reducible refine gate_callee (f := 22) rfl ?_); refine gm_ (some 80) Try.func22 #[.slice Ao9 t293.length co9, .slice Ao28 t300.length co28] rfl ?_; (with_reducible refine (impl_IsCycle.calls k3 _ _ t293 _ _ t300 t310 _ ?side1 ?side2 ?side3 ?side4 A35.out).mono ?_); (case side1 => repeat (first | exact (Kd.R_reads' HO_3.out).2.2 | (with_reducible refine Kd.C_alloc ?_ _) | (with_reducible refine Kd.C_drewN ?_ _) | (with_reducible refine Kd.C_drew ?_))); (case side2 => exact (Kd.R_reads' HO_3.out).2.1); (case side3 => repeat (first | exact (Kd.R_reads' HO_6.out).2.2 | (with_reducible refine Kd.C_alloc ?_ _) | (with_reducible refine Kd.C_drewN ?_ _) | (with_reducible refine Kd.C_drew ?_))); (case side4 => exact (Kd.R_reads' HO_6.out).2.1); rintro e w36 ⟨rfl, hb⟩; refine ⟨_, rfl, ?_⟩; replace HO_3 := Aside0.mk (Kd.R_below (ra_ HO_3.out) hb); replace HO_6 := Aside0.mk (Kd.R_below (ra_ HO_6.out) hb); replace HB := Aside0.mk (bs_ HB.out hb); (try clear hb)))
            go_ret
            exact ⟨fin_, bb_ HB.out⟩

/-- THE ONE PURE STATEMENT of laws_FnCycles: yours. -/
def laws_FnCycles.Pure : Prop := ∀ (l0 : List Int), l0.length ≤ maxLen → l0.length * 1 ≤ 140737488351232 → (∀ x ∈ l0, (Lit.int .u8 x).wf = true) → ∃ k, laws_FnCycles.f k l0 = some true
theorem laws_FnCycles.walk (P : laws_FnCycles.Pure) (a0 : Option Addr) (len0 cap0 : Nat) (z0 : List Int) (w : World) (w0 : (a0 = none ∧ len0 = 0 ∧ cap0 = 0 ∧ z0 = []) ∨ ∃ x, a0 = some x ∧ len0 ≤ cap0 ∧ cap0 ≤ maxLen ∧ z0.length = cap0 ∧ (∀ i, i < z0.length → w.cell? (x.add i) = some (.int .u8 (z0.getD i 0))) ∧ ∀ n ∈ z0, (Lit.int .u8 n).wf = true) (y0 : len0 * 1 ≤ 140737488351232) :
  Calls Try.prog 6 #[.slice a0 len0 cap0] w fun e w' => e = .returned (.bool true) ∧ Below w.heap.size w w' := by
 obtain ⟨l0, rfl, hr0, hm0, hw0, hc0⟩ := ReadsInt.ofRowC w0
 obtain ⟨k, h⟩ := P l0 hm0 y0 hw0
 refine (laws_FnCycles.calls k _ _ l0 true w (Kd.C_of_reads (d := (0 : Int)) (h1 := fun _ => rfl) hr0) hc0 h).mono ?_
 rintro e w' ⟨rfl, hd⟩
 exact ⟨rfl, hd⟩

end Go.Proofs.Ytagmogkdlimofaa.PFnCycles
-- thin
