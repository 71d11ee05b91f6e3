/- Each function that the law comes to, as a plain function, with the proof that the call in the model gives what that function says (written by a program of this session out of the translation). No condition. -/
import Derived.Test.YtogapggfegplkaaPFnExactNetOkx0
import Derived.Test.YtogapggfegplkaaPFnExactNetOkx4
import Derived.Test.YtogapggfegplkaaPFnExactNetOkx5
import Derived.Test.YtogapggfegplkaaPFnExactNetOkx6
import Derived.Test.YtogapggfegplkaaPFnExactNetOkx7
import Derived.Test.YtogapggfegplkaaPFnExactNetOkx12
namespace Go.Proofs.Ytogapggfegplkaa.PFnExactNetOk
open Go.RowKit Go.Proofs.YtogapggfegplkaaW.PrintWords Go.Proofs.YtogapggfegplkaaW.PrintLast Go.Proofs.YtogapggfegplkaaW.PrintMore
attribute [local go_sem] max2_int min2_int max_two min_two max_three min_three max_four min_four   -- for this text's walks alone
set_option linter.unusedVariables false
set_option linter.unusedSimpArgs false

/-! ### laws_FnExactNetOk: function 12 -/
def laws_FnExactNetOk.f (k : Nat) (a0_0 : Int) (a0_1 : Int) (l0_2 : List Int) (l0_3 : List Int) (l0_4 : List Int) (l0_5 : List (List (S183))) (l0_6 : List Int) (l0_7 : List Int) (l0_8 : List (List (S183))) (l0_9 : List (List (S183))) (a0_10 : Int) : Option (Bool) := (laws_szNet.f k a0_0 a0_1 l0_2 l0_3 l0_4 l0_5 l0_6 l0_7 l0_8 l0_9 a0_10 1048576).bind fun t415 => (if t415 < 0 then (some true) else ((laws_toNet.f k a0_0 a0_1 l0_2 l0_3 l0_4 l0_5 l0_6 l0_7 l0_8 l0_9 a0_10).bind fun bt416 => ((spec_NetOk.f k bt416.1 bt416.2.1 bt416.2.2.1 bt416.2.2.2.1 bt416.2.2.2.2.1 bt416.2.2.2.2.2.1 bt416.2.2.2.2.2.2.1 bt416.2.2.2.2.2.2.2.1 bt416.2.2.2.2.2.2.2.2.1 bt416.2.2.2.2.2.2.2.2.2.1 bt416.2.2.2.2.2.2.2.2.2.2).bind fun t443 => ((laws_toNet.f k a0_0 a0_1 l0_2 l0_3 l0_4 l0_5 l0_6 l0_7 l0_8 l0_9 a0_10).bind fun bt444 => ((impl_NetOk.f k bt444.1 bt444.2.1 bt444.2.2.1 bt444.2.2.2.1 bt444.2.2.2.2.1 bt444.2.2.2.2.2.1 bt444.2.2.2.2.2.2.1 bt444.2.2.2.2.2.2.2.1 bt444.2.2.2.2.2.2.2.2.1 bt444.2.2.2.2.2.2.2.2.2.1 bt444.2.2.2.2.2.2.2.2.2.2).bind fun t472 => (if (t472 != t443) = true then (none) else ((laws_toNet.f k a0_0 a0_1 l0_2 l0_3 l0_4 l0_5 l0_6 l0_7 l0_8 l0_9 a0_10).bind fun bt473 => ((laws_eqNet.f k bt444.1 bt444.2.1 bt444.2.2.1 bt444.2.2.2.1 bt444.2.2.2.2.1 bt444.2.2.2.2.2.1 bt444.2.2.2.2.2.2.1 bt444.2.2.2.2.2.2.2.1 bt444.2.2.2.2.2.2.2.2.1 bt444.2.2.2.2.2.2.2.2.2.1 bt444.2.2.2.2.2.2.2.2.2.2 bt473.1 bt473.2.1 bt473.2.2.1 bt473.2.2.2.1 bt473.2.2.2.2.1 bt473.2.2.2.2.2.1 bt473.2.2.2.2.2.2.1 bt473.2.2.2.2.2.2.2.1 bt473.2.2.2.2.2.2.2.2.1 bt473.2.2.2.2.2.2.2.2.2.1 bt473.2.2.2.2.2.2.2.2.2.2).bind fun t500 => (if t500 = true then (some true) else (none))))))))))
theorem laws_FnExactNetOk.mono : ∀ a0 a1 a2 a3 a4 a5 a6 a7 a8 a9 a10 k, LeO (laws_FnExactNetOk.f k a0 a1 a2 a3 a4 a5 a6 a7 a8 a9 a10) (laws_FnExactNetOk.f (k + 1) a0 a1 a2 a3 a4 a5 a6 a7 a8 a9 a10) := by
 intro a0 a1 a2 a3 a4 a5 a6 a7 a8 a9 a10 k
 unfold laws_FnExactNetOk.f
 repeat' first
   | (with_reducible exact impl_NetOk.mono _ _ _ _ _ _ _ _ _ _ _ _)
   | (with_reducible exact laws_eqNet.mono _ _ _ _ _ _ _ _ _ _ _ _ _ _ _ _ _ _ _ _ _ _ _)
   | (with_reducible exact laws_szNet.mono _ _ _ _ _ _ _ _ _ _ _ _ _)
   | (with_reducible exact laws_toNet.mono _ _ _ _ _ _ _ _ _ _ _ _)
   | (with_reducible exact spec_NetOk.mono _ _ _ _ _ _ _ _ _ _ _ _)
   | (with_reducible exact LeO.refl _)
   | (with_reducible exact LeO.none _)
   | (with_reducible refine LeO.ite ?_ ?_)
   | (with_reducible refine LeO.bind ?_ (fun _ => ?_))
   | exact impl_NetOk.mono _ _ _ _ _ _ _ _ _ _ _ _
   | exact laws_eqNet.mono _ _ _ _ _ _ _ _ _ _ _ _ _ _ _ _ _ _ _ _ _ _ _
   | exact laws_szNet.mono _ _ _ _ _ _ _ _ _ _ _ _ _
   | exact laws_toNet.mono _ _ _ _ _ _ _ _ _ _ _ _
   | exact spec_NetOk.mono _ _ _ _ _ _ _ _ _ _ _ _
   | exact LeO.none _
   | refine LeO.ite ?_ ?_
   | refine LeO.bind ?_ (fun _ => ?_)
set_option maxHeartbeats 8000000 in
set_option maxRecDepth 100000 in
theorem laws_FnExactNetOk.calls (k : Nat) (a0_0 : Int) (a0_1 : Int) (A0_2 : Option Addr) (c0_2 : Nat) (l0_2 : List Int) (A0_3 : Option Addr) (c0_3 : Nat) (l0_3 : List Int) (A0_4 : Option Addr) (c0_4 : Nat) (l0_4 : List Int) (A0_5 : Option Addr) (c0_5 : Nat) (l0_5 : List (List (S183))) (A0_6 : Option Addr) (c0_6 : Nat) (l0_6 : List Int) (A0_7 : Option Addr) (c0_7 : Nat) (l0_7 : List Int) (A0_8 : Option Addr) (c0_8 : Nat) (l0_8 : List (List (S183))) (A0_9 : Option Addr) (c0_9 : Nat) (l0_9 : List (List (S183))) (a0_10 : Int) (r : Bool) (w : World) (hr0_2 : Kd.C (Kd.int .i64) w A0_2 l0_2.length l0_2) (hc0_2 : l0_2.length ≤ c0_2) (hr0_3 : Kd.C (Kd.int .i64) w A0_3 l0_3.length l0_3) (hc0_3 : l0_3.length ≤ c0_3) (hr0_4 : Kd.C (Kd.int .i64) w A0_4 l0_4.length l0_4) (hc0_4 : l0_4.length ≤ c0_4) (hr0_5 : Kd.C (Kd.slice 183 k183) w A0_5 l0_5.length l0_5) (hc0_5 : l0_5.length ≤ c0_5) (hr0_6 : Kd.C (Kd.int .i64) w A0_6 l0_6.length l0_6) (hc0_6 : l0_6.length ≤ c0_6) (hr0_7 : Kd.C (Kd.int .i64) w A0_7 l0_7.length l0_7) (hc0_7 : l0_7.length ≤ c0_7) (hr0_8 : Kd.C (Kd.slice 183 k183) w A0_8 l0_8.length l0_8) (hc0_8 : l0_8.length ≤ c0_8) (hr0_9 : Kd.C (Kd.slice 183 k183) w A0_9 l0_9.length l0_9) (hc0_9 : l0_9.length ≤ c0_9) (h : laws_FnExactNetOk.f k a0_0 a0_1 l0_2 l0_3 l0_4 l0_5 l0_6 l0_7 l0_8 l0_9 a0_10 = some r) :
  Calls Try.prog 12 #[.agg #[.int .i64 a0_0, .int .i64 a0_1, .slice A0_2 l0_2.length c0_2, .slice A0_3 l0_3.length c0_3, .slice A0_4 l0_4.length c0_4, .slice A0_5 l0_5.length c0_5, .slice A0_6 l0_6.length c0_6, .slice A0_7 l0_7.length c0_7, .slice A0_8 l0_8.length c0_8, .slice A0_9 l0_9.length c0_9, .int .i64 a0_10]] w fun e w' => e = .returned (.bool r) ∧ Below w.heap.size w w' := by
 have hu78 := Try.underlying78
 have hu55 := Try.underlying55
 have HR0_2 := Aside0.mk hr0_2
 have HC0_2 := Aside0.mk hc0_2
 clear hr0_2 hc0_2
 have HR0_3 := Aside0.mk hr0_3
 have HC0_3 := Aside0.mk hc0_3
 clear hr0_3 hc0_3
 have HR0_4 := Aside0.mk hr0_4
 have HC0_4 := Aside0.mk hc0_4
 clear hr0_4 hc0_4
 have HR0_5 := Aside0.mk hr0_5
 have HC0_5 := Aside0.mk hc0_5
 clear hr0_5 hc0_5
 have HR0_6 := Aside0.mk hr0_6
 have HC0_6 := Aside0.mk hc0_6
 clear hr0_6 hc0_6
 have HR0_7 := Aside0.mk hr0_7
 have HC0_7 := Aside0.mk hc0_7
 clear hr0_7 hc0_7
 have HR0_8 := Aside0.mk hr0_8
 have HC0_8 := Aside0.mk hc0_8
 clear hr0_8 hc0_8
 have HR0_9 := Aside0.mk hr0_9
 have HC0_9 := Aside0.mk hc0_9
 clear hr0_9 hc0_9
 have HB := Aside0.mk (Below.refl w.heap.size w)
 have H : ((laws_szNet.f k a0_0 a0_1 l0_2 l0_3 l0_4 l0_5 l0_6 l0_7 l0_8 l0_9 a0_10 1048576).bind fun t415 => (if t415 < 0 then (some true) else ((laws_toNet.f k a0_0 a0_1 l0_2 l0_3 l0_4 l0_5 l0_6 l0_7 l0_8 l0_9 a0_10).bind fun bt416 => ((spec_NetOk.f k bt416.1 bt416.2.1 bt416.2.2.1 bt416.2.2.2.1 bt416.2.2.2.2.1 bt416.2.2.2.2.2.1 bt416.2.2.2.2.2.2.1 bt416.2.2.2.2.2.2.2.1 bt416.2.2.2.2.2.2.2.2.1 bt416.2.2.2.2.2.2.2.2.2.1 bt416.2.2.2.2.2.2.2.2.2.2).bind fun t443 => ((laws_toNet.f k a0_0 a0_1 l0_2 l0_3 l0_4 l0_5 l0_6 l0_7 l0_8 l0_9 a0_10).bind fun bt444 => ((impl_NetOk.f k bt444.1 bt444.2.1 bt444.2.2.1 bt444.2.2.2.1 bt444.2.2.2.2.1 bt444.2.2.2.2.2.1 bt444.2.2.2.2.2.2.1 bt444.2.2.2.2.2.2.2.1 bt444.2.2.2.2.2.2.2.2.1 bt444.2.2.2.2.2.2.2.2.2.1 bt444.2.2.2.2.2.2.2.2.2.2).bind fun t472 => (if (t472 != t443) = true then (none) else ((laws_toNet.f k a0_0 a0_1 l0_2 l0_3 l0_4 l0_5 l0_6 l0_7 l0_8 l0_9 a0_10).bind fun bt473 => ((laws_eqNet.f k bt444.1 bt444.2.1 bt444.2.2.1 bt444.2.2.2.1 bt444.2.2.2.2.1 bt444.2.2.2.2.2.1 bt444.2.2.2.2.2.2.1 bt444.2.2.2.2.2.2.2.1 bt444.2.2.2.2.2.2.2.2.1 bt444.2.2.2.2.2.2.2.2.2.1 bt444.2.2.2.2.2.2.2.2.2.2 bt473.1 bt473.2.1 bt473.2.2.1 bt473.2.2.2.1 bt473.2.2.2.2.1 bt473.2.2.2.2.2.1 bt473.2.2.2.2.2.2.1 bt473.2.2.2.2.2.2.2.1 bt473.2.2.2.2.2.2.2.2.1 bt473.2.2.2.2.2.2.2.2.2.1 bt473.2.2.2.2.2.2.2.2.2.2).bind fun t500 => (if t500 = true then (some true) else (none))))))))))) = some r := h
 clear h
 replace H := Option.bind_eq_some_iff.mp H
 obtain ⟨t415, A20, H⟩ := H
 try dsimp only at H
 have A2 := Aside0.mk A20
 clear A20
 by_cases c3 : t415 < 0
 ·rw [if_pos c3] at H
  have c3b0 : decide (t415 < 0) = true := decide_eq_true c3
  clear c3
  obtain rfl := Option.some.inj H
  go_enter Try.func12, Try.ntmps12
  go_wp2_with (first | ((with_reducible refine gate_dst (N := 1) rfl ?_); refine box_event ?hg (N := 1) ?hd (cs := #[.int .i64 a0_0, .int .i64 a0_1, .slice A0_2 l0_2.length c0_2, .slice A0_3 l0_3.length c0_3, .slice A0_4 l0_4.length c0_4, .slice A0_5 l0_5.length c0_5, .slice A0_6 l0_6.length c0_6, .slice A0_7 l0_7.length c0_7, .slice A0_8 l0_8.length c0_8, .slice A0_9 l0_9.length c0_9, .int .i64 a0_10]) (t := 78) ?hr ?_; (case hd => rfl); (case hg => rfl); (case hr => first | (go_simp; done) | (go_simp; rfl)); intro gb414 hg w4 hbox hb; have BK414 := Aside0.mk (hbox); have GW414 := Aside0.mk ((by rw [hg]; exact (bz_ HB.out) : w.heap.size ≤ gb414)); have GE414 := Aside0.mk ((by rw [hg]; exact (bz_ HB.out) : w.heap.size ≤ gb414)); replace HB := Aside0.mk (bs_ HB.out hb); clear hb hbox hg; obtain ⟨hcz5_0, hcz5_1, hcz5_2, hcz5_3, hcz5_4, hcz5_5, hcz5_6, hcz5_7, hcz5_8, hcz5_9, hcz5_10, hfz5_0, hfz5_1, hfz5_2, hfz5_3, hfz5_4, hfz5_5, hfz5_6, hfz5_7, hfz5_8, hfz5_9, hfz5_10⟩ := cz11_ BK414.out) | ((with_reducible refine gate_callee (f := 48) rfl ?_); refine gm_ (some 9) Try.func48 #[.agg #[.int .i64 a0_0, .int .i64 a0_1, .slice A0_2 l0_2.length c0_2, .slice A0_3 l0_3.length c0_3, .slice A0_4 l0_4.length c0_4, .slice A0_5 l0_5.length c0_5, .slice A0_6 l0_6.length c0_6, .slice A0_7 l0_7.length c0_7, .slice A0_8 l0_8.length c0_8, .slice A0_9 l0_9.length c0_9, .int .i64 a0_10], .int .i64 1048576] rfl ?_; (with_reducible refine (laws_szNet.calls k a0_0 a0_1 _ _ l0_2 _ _ l0_3 _ _ l0_4 _ _ l0_5 _ _ l0_6 _ _ l0_7 _ _ l0_8 _ _ l0_9 a0_10 1048576 t415 _ ?side1 HC0_2.out ?side3 HC0_3.out ?side5 HC0_4.out ?side7 HC0_5.out ?side9 HC0_6.out ?side11 HC0_7.out ?side13 HC0_8.out ?side15 HC0_9.out A2.out).mono ?_); (case side1 => exact cb_ HR0_2.out HB.out); (case side3 => exact cb_ HR0_3.out HB.out); (case side5 => exact cb_ HR0_4.out HB.out); (case side7 => exact cb_ HR0_5.out HB.out); (case side9 => exact cb_ HR0_6.out HB.out); (case side11 => exact cb_ HR0_7.out HB.out); (case side13 => exact cb_ HR0_8.out HB.out); (case side15 => exact cb_ HR0_9.out HB.out); rintro e w6 ⟨rfl, hb⟩; refine ⟨_, rfl, ?_⟩; replace BK414 := Aside0.mk (bk_ BK414.out hb); replace HB := Aside0.mk (bs_ HB.out hb); (try clear hb)))
  go_ret
  exact ⟨fin_, bb_ HB.out⟩
 ·rw [if_neg c3] at H
  have c3b0 : decide (t415 < 0) = false := decide_eq_false c3
  clear c3
  replace H := Option.bind_eq_some_iff.mp H
  obtain ⟨⟨t416, t417, t418, t421, t424, t427, t430, t433, t436, t439, t442⟩, A70, H⟩ := H
  try dsimp only at H
  have A7 := Aside0.mk A70
  clear A70
  replace H := Option.bind_eq_some_iff.mp H
  obtain ⟨t443, A80, H⟩ := H
  try dsimp only at H
  have A8 := Aside0.mk A80
  clear A80
  replace H := Option.bind_eq_some_iff.mp H
  obtain ⟨⟨t444, t445, t446, t449, t452, t455, t458, t461, t464, t467, t470⟩, A90, H⟩ := H
  try dsimp only at H
  have A9 := Aside0.mk A90
  clear A90
  replace H := Option.bind_eq_some_iff.mp H
  obtain ⟨t472, A100, H⟩ := H
  try dsimp only at H
  have A10 := Aside0.mk A100
  clear A100
  by_cases c11 : (t472 != t443) = true
  ·rw [if_pos c11] at H
   exact absurd H (by simp)
  ·rw [if_neg c11] at H
   have c11b0 : (t472 != t443) = false := by simpa using c11
   (try (have c11b1 : decide (t472 = t443) = true := by simpa using c11))
   (try (have c11b2 : (t472 == t443) = true := by simpa using c11))
   clear c11
   replace H := Option.bind_eq_some_iff.mp H
   obtain ⟨⟨t473, t474, t475, t478, t481, t484, t487, t490, t493, t496, t499⟩, A120, H⟩ := H
   try dsimp only at H
   have A12 := Aside0.mk A120
   clear A120
   replace H := Option.bind_eq_some_iff.mp H
   obtain ⟨t500, A130, H⟩ := H
   try dsimp only at H
   have A13 := Aside0.mk A130
   clear A130
   by_cases c14 : t500 = true
   ·subst c14
    rw [if_pos rfl] at H
    obtain rfl := Option.some.inj H
    go_enter Try.func12, Try.ntmps12
    try go_wp2_with (first | ((with_reducible refine gate_dst (N := 1) rfl ?_); refine box_event ?hg (N := 1) ?hd (cs := #[.int .i64 a0_0, .int .i64 a0_1, .slice A0_2 l0_2.length c0_2, .slice A0_3 l0_3.length c0_3, .slice A0_4 l0_4.length c0_4, .slice A0_5 l0_5.length c0_5, .slice A0_6 l0_6.length c0_6, .slice A0_7 l0_7.length c0_7, .slice A0_8 l0_8.length c0_8, .slice A0_9 l0_9.length c0_9, .int .i64 a0_10]) (t := 78) ?hr ?_; (case hd => rfl); (case hg => rfl); (case hr => first | (go_simp; done) | (go_simp; rfl)); intro gb414 hg w15 hbox hb; have BK414 := Aside0.mk (hbox); have GW414 := Aside0.mk ((by rw [hg]; exact (bz_ HB.out) : w.heap.size ≤ gb414)); have GE414 := Aside0.mk ((by rw [hg]; exact (bz_ HB.out) : w.heap.size ≤ gb414)); replace HB := Aside0.mk (bs_ HB.out hb); clear hb hbox hg; obtain ⟨hcz16_0, hcz16_1, hcz16_2, hcz16_3, hcz16_4, hcz16_5, hcz16_6, hcz16_7, hcz16_8, hcz16_9, hcz16_10, hfz16_0, hfz16_1, hfz16_2, hfz16_3, hfz16_4, hfz16_5, hfz16_6, hfz16_7, hfz16_8, hfz16_9, hfz16_10⟩ := cz11_ BK414.out) | ((with_reducible refine gate_callee (f := 48) rfl ?_); refine gm_ (some 9) Try.func48 #[.agg #[.int .i64 a0_0, .int .i64 a0_1, .slice A0_2 l0_2.length c0_2, .slice A0_3 l0_3.length c0_3, .slice A0_4 l0_4.length c0_4, .slice A0_5 l0_5.length c0_5, .slice A0_6 l0_6.length c0_6, .slice A0_7 l0_7.length c0_7, .slice A0_8 l0_8.length c0_8, .slice A0_9 l0_9.length c0_9, .int .i64 a0_10], .int .i64 1048576] rfl ?_; (with_reducible refine (laws_szNet.calls k a0_0 a0_1 _ _ l0_2 _ _ l0_3 _ _ l0_4 _ _ l0_5 _ _ l0_6 _ _ l0_7 _ _ l0_8 _ _ l0_9 a0_10 1048576 t415 _ ?side1 HC0_2.out ?side3 HC0_3.out ?side5 HC0_4.out ?side7 HC0_5.out ?side9 HC0_6.out ?side11 HC0_7.out ?side13 HC0_8.out ?side15 HC0_9.out A2.out).mono ?_); (case side1 => exact cb_ HR0_2.out HB.out); (case side3 => exact cb_ HR0_3.out HB.out); (case side5 => exact cb_ HR0_4.out HB.out); (case side7 => exact cb_ HR0_5.out HB.out); (case side9 => exact cb_ HR0_6.out HB.out); (case side11 => exact cb_ HR0_7.out HB.out); (case side13 => exact cb_ HR0_8.out HB.out); (case side15 => exact cb_ HR0_9.out HB.out); rintro e w17 ⟨rfl, hb⟩; refine ⟨_, rfl, ?_⟩; replace BK414 := Aside0.mk (bk_ BK414.out hb); replace HB := Aside0.mk (bs_ HB.out hb); (try clear hb); obtain ⟨hcz18_0, hcz18_1, hcz18_2, hcz18_3, hcz18_4, hcz18_5, hcz18_6, hcz18_7, hcz18_8, hcz18_9, hcz18_10, hfz18_0, hfz18_1, hfz18_2, hfz18_3, hfz18_4, hfz18_5, hfz18_6, hfz18_7, hfz18_8, hfz18_9, hfz18_10⟩ := cz11_ BK414.out) | ((with_reducible refine gate_callee (f := 50) rfl ?_); refine gm_ (some 13) Try.func50 #[.agg #[.int .i64 a0_0, .int .i64 a0_1, .slice A0_2 l0_2.length c0_2, .slice A0_3 l0_3.length c0_3, .slice A0_4 l0_4.length c0_4, .slice A0_5 l0_5.length c0_5, .slice A0_6 l0_6.length c0_6, .slice A0_7 l0_7.length c0_7, .slice A0_8 l0_8.length c0_8, .slice A0_9 l0_9.length c0_9, .int .i64 a0_10]] rfl ?_; (with_reducible refine (laws_toNet.calls k a0_0 a0_1 _ _ l0_2 _ _ l0_3 _ _ l0_4 _ _ l0_5 _ _ l0_6 _ _ l0_7 _ _ l0_8 _ _ l0_9 a0_10 t416 t417 t418 t421 t424 t427 t430 t433 t436 t439 t442 _ ?side1 HC0_2.out ?side3 HC0_3.out ?side5 HC0_4.out ?side7 HC0_5.out ?side9 HC0_6.out ?side11 HC0_7.out ?side13 HC0_8.out ?side15 HC0_9.out A7.out).mono ?_); (case side1 => exact cb_ HR0_2.out HB.out); (case side3 => exact cb_ HR0_3.out HB.out); (case side5 => exact cb_ HR0_4.out HB.out); (case side7 => exact cb_ HR0_5.out HB.out); (case side9 => exact cb_ HR0_6.out HB.out); (case side11 => exact cb_ HR0_7.out HB.out); (case side13 => exact cb_ HR0_8.out HB.out); (case side15 => exact cb_ HR0_9.out HB.out); rintro e w19 ⟨v419, v422, v425, v428, v431, v434, v437, v440, rfl, ho0, ho1, ho2, ho3, ho4, ho5, ho6, ho7, hb⟩; refine ⟨_, rfl, ?_⟩; have HO420 := Aside0.mk (Kd.R_lower ho0 (bz_ HB.out)); have HO423 := Aside0.mk (Kd.R_lower ho1 (bz_ HB.out)); have HO426 := Aside0.mk (Kd.R_lower ho2 (bz_ HB.out)); have HO429 := Aside0.mk (Kd.S_lower ho3 (bz_ HB.out)); have HO432 := Aside0.mk (Kd.R_lower ho4 (bz_ HB.out)); have HO435 := Aside0.mk (Kd.R_lower ho5 (bz_ HB.out)); have HO438 := Aside0.mk (Kd.S_lower ho6 (bz_ HB.out)); have HO441 := Aside0.mk (Kd.S_lower ho7 (bz_ HB.out)); replace BK414 := Aside0.mk (bk_ BK414.out hb); replace HB := Aside0.mk (bs_ HB.out hb); (try clear hb); (try clear ho0); (try clear ho1); (try clear ho2); (try clear ho3); (try clear ho4); (try clear ho5); (try clear ho6); (try clear ho7); obtain ⟨Ao20, co20, eo20⟩ := Kd.R_slice HO420.out; subst eo20; obtain ⟨Ao21, co21, eo21⟩ := Kd.R_slice HO423.out; subst eo21; obtain ⟨Ao22, co22, eo22⟩ := Kd.R_slice HO426.out; subst eo22; obtain ⟨Ao23, co23, eo23⟩ := Kd.S_slice HO429.out; subst eo23; obtain ⟨Ao24, co24, eo24⟩ := Kd.R_slice HO432.out; subst eo24; obtain ⟨Ao25, co25, eo25⟩ := Kd.R_slice HO435.out; subst eo25; obtain ⟨Ao26, co26, eo26⟩ := Kd.S_slice HO438.out; subst eo26; obtain ⟨Ao27, co27, eo27⟩ := Kd.S_slice HO441.out; subst eo27) | ((with_reducible refine gate_callee (f := 57) rfl ?_); refine gm_ (some 14) Try.func57 #[.agg #[.int .i64 t416, .int .i64 t417, .slice Ao20 t418.length co20, .slice Ao21 t421.length co21, .slice Ao22 t424.length co22, .slice Ao23 t427.length co23, .slice Ao24 t430.length co24, .slice Ao25 t433.length co25, .slice Ao26 t436.length co26, .slice Ao27 t439.length co27, .int .i64 t442]] rfl ?_; (with_reducible refine (spec_NetOk.calls k t416 t417 _ _ t418 _ _ t421 _ _ t424 _ _ t427 _ _ t430 _ _ t433 _ _ t436 _ _ t439 t442 t443 _ ?side1 ?side2 ?side3 ?side4 ?side5 ?side6 ?side7 ?side8 ?side9 ?side10 ?side11 ?side12 ?side13 ?side14 ?side15 ?side16 A8.out).mono ?_); (case side1 => repeat (first | exact (Kd.R_reads' HO420.out).2.2 | (with_reducible refine Kd.C_alloc ?_ _) | (with_reducible refine Kd.C_drewN ?_ _) | (with_reducible refine Kd.C_drew ?_))); (case side2 => exact (Kd.R_reads' HO420.out).2.1); (case side3 => repeat (first | exact (Kd.R_reads' HO423.out).2.2 | (with_reducible refine Kd.C_alloc ?_ _) | (with_reducible refine Kd.C_drewN ?_ _) | (with_reducible refine Kd.C_drew ?_))); (case side4 => exact (Kd.R_reads' HO423.out).2.1); (case side5 => repeat (first | exact (Kd.R_reads' HO426.out).2.2 | (with_reducible refine Kd.C_alloc ?_ _) | (with_reducible refine Kd.C_drewN ?_ _) | (with_reducible refine Kd.C_drew ?_))); (case side6 => exact (Kd.R_reads' HO426.out).2.1); (case side7 => repeat (first | exact (Kd.S_reads' HO429.out).2.2 | (with_reducible refine Kd.C_alloc ?_ _) | (with_reducible refine Kd.C_drewN ?_ _) | (with_reducible refine Kd.C_drew ?_))); (case side8 => exact (Kd.S_reads' HO429.out).2.1); (case side9 => repeat (first | exact (Kd.R_reads' HO432.out).2.2 | (with_reducible refine Kd.C_alloc ?_ _) | (with_reducible refine Kd.C_drewN ?_ _) | (with_reducible refine Kd.C_drew ?_))); (case side10 => exact (Kd.R_reads' HO432.out).2.1); (case side11 => repeat (first | exact (Kd.R_reads' HO435.out).2.2 | (with_reducible refine Kd.C_alloc ?_ _) | (with_reducible refine Kd.C_drewN ?_ _) | (with_reducible refine Kd.C_drew ?_))); (case side12 => exact (Kd.R_reads' HO435.out).2.1); (case side13 => repeat (first | exact (Kd.S_reads' HO438.out).2.2 | (with_reducible refine Kd.C_alloc ?_ _) | (with_reducible refine Kd.C_drewN ?_ _) | (with_reducible refine Kd.C_drew ?_))); (case side14 => exact (Kd.S_reads' HO438.out).2.1); (case side15 => repeat (first | exact (Kd.S_reads' HO441.out).2.2 | (with_reducible refine Kd.C_alloc ?_ _) | (with_reducible refine Kd.C_drewN ?_ _) | (with_reducible refine Kd.C_drew ?_))); (case side16 => exact (Kd.S_reads' HO441.out).2.1); rintro e w28 ⟨rfl, hb⟩; refine ⟨_, rfl, ?_⟩; replace HO420 := Aside0.mk (Kd.R_below (ra_ HO420.out) hb); replace HO423 := Aside0.mk (Kd.R_below (ra_ HO423.out) hb); replace HO426 := Aside0.mk (Kd.R_below (ra_ HO426.out) hb); replace HO429 := Aside0.mk (Kd.S_below (sa_ HO429.out) hb); replace HO432 := Aside0.mk (Kd.R_below (ra_ HO432.out) hb); replace HO435 := Aside0.mk (Kd.R_below (ra_ HO435.out) hb); replace HO438 := Aside0.mk (Kd.S_below (sa_ HO438.out) hb); replace HO441 := Aside0.mk (Kd.S_below (sa_ HO441.out) hb); replace BK414 := Aside0.mk (bk_ BK414.out hb); replace HB := Aside0.mk (bs_ HB.out hb); (try clear hb); obtain ⟨hcz29_0, hcz29_1, hcz29_2, hcz29_3, hcz29_4, hcz29_5, hcz29_6, hcz29_7, hcz29_8, hcz29_9, hcz29_10, hfz29_0, hfz29_1, hfz29_2, hfz29_3, hfz29_4, hfz29_5, hfz29_6, hfz29_7, hfz29_8, hfz29_9, hfz29_10⟩ := cz11_ BK414.out) | ((with_reducible refine gate_callee (f := 50) rfl ?_); refine gm_ (some 16) Try.func50 #[.agg #[.int .i64 a0_0, .int .i64 a0_1, .slice A0_2 l0_2.length c0_2, .slice A0_3 l0_3.length c0_3, .slice A0_4 l0_4.length c0_4, .slice A0_5 l0_5.length c0_5, .slice A0_6 l0_6.length c0_6, .slice A0_7 l0_7.length c0_7, .slice A0_8 l0_8.length c0_8, .slice A0_9 l0_9.length c0_9, .int .i64 a0_10]] rfl ?_; (with_reducible refine (laws_toNet.calls k a0_0 a0_1 _ _ l0_2 _ _ l0_3 _ _ l0_4 _ _ l0_5 _ _ l0_6 _ _ l0_7 _ _ l0_8 _ _ l0_9 a0_10 t444 t445 t446 t449 t452 t455 t458 t461 t464 t467 t470 _ ?side1 HC0_2.out ?side3 HC0_3.out ?side5 HC0_4.out ?side7 HC0_5.out ?side9 HC0_6.out ?side11 HC0_7.out ?side13 HC0_8.out ?side15 HC0_9.out A9.out).mono ?_); (case side1 => exact cb_ HR0_2.out HB.out); (case side3 => exact cb_ HR0_3.out HB.out); (case side5 => exact cb_ HR0_4.out HB.out); (case side7 => exact cb_ HR0_5.out HB.out); (case side9 => exact cb_ HR0_6.out HB.out); (case side11 => exact cb_ HR0_7.out HB.out); (case side13 => exact cb_ HR0_8.out HB.out); (case side15 => exact cb_ HR0_9.out HB.out); rintro e w30 ⟨v447, v450, v453, v456, v459, v462, v465, v468, rfl, ho0, ho1, ho2, ho3, ho4, ho5, ho6, ho7, hb⟩; refine ⟨_, rfl, ?_⟩; have HO448 := Aside0.mk (Kd.R_lower (Kd.R_new' (Kd.R_new' (Kd.R_new' (Kd.R_new' (Kd.R_new' ho0 (rl_ HO420.out)) (rl_ HO423.out)) (rl_ HO426.out)) (rl_ HO432.out)) (rl_ HO435.out)) (bz_ HB.out)); have HO451 := Aside0.mk (Kd.R_lower (Kd.R_new' (Kd.R_new' (Kd.R_new' (Kd.R_new' (Kd.R_new' ho1 (rl_ HO420.out)) (rl_ HO423.out)) (rl_ HO426.out)) (rl_ HO432.out)) (rl_ HO435.out)) (bz_ HB.out)); have HO454 := Aside0.mk (Kd.R_lower (Kd.R_new' (Kd.R_new' (Kd.R_new' (Kd.R_new' (Kd.R_new' ho2 (rl_ HO420.out)) (rl_ HO423.out)) (rl_ HO426.out)) (rl_ HO432.out)) (rl_ HO435.out)) (bz_ HB.out)); have HO457 := Aside0.mk (Kd.S_lower (Kd.S_new' (Kd.S_new' (Kd.S_new' ho3 (sl_ HO429.out)) (sl_ HO438.out)) (sl_ HO441.out)) (bz_ HB.out)); have HO460 := Aside0.mk (Kd.R_lower (Kd.R_new' (Kd.R_new' (Kd.R_new' (Kd.R_new' (Kd.R_new' ho4 (rl_ HO420.out)) (rl_ HO423.out)) (rl_ HO426.out)) (rl_ HO432.out)) (rl_ HO435.out)) (bz_ HB.out)); have HO463 := Aside0.mk (Kd.R_lower (Kd.R_new' (Kd.R_new' (Kd.R_new' (Kd.R_new' (Kd.R_new' ho5 (rl_ HO420.out)) (rl_ HO423.out)) (rl_ HO426.out)) (rl_ HO432.out)) (rl_ HO435.out)) (bz_ HB.out)); replace HO420 := Aside0.mk (Kd.R_mono (Kd.R_told (Kd.R_told (Kd.R_told (Kd.R_told (Kd.R_told (Kd.R_old (ra_ HO420.out) hb) (Kd.R_base ho0)) (Kd.R_base ho1)) (Kd.R_base ho2)) (Kd.R_base ho4)) (Kd.R_base ho5)) (fun _ h_ => h_.1)); replace HO423 := Aside0.mk (Kd.R_mono (Kd.R_told (Kd.R_told (Kd.R_told (Kd.R_told (Kd.R_told (Kd.R_old (ra_ HO423.out) hb) (Kd.R_base ho0)) (Kd.R_base ho1)) (Kd.R_base ho2)) (Kd.R_base ho4)) (Kd.R_base ho5)) (fun _ h_ => h_.1)); replace HO426 := Aside0.mk (Kd.R_mono (Kd.R_told (Kd.R_told (Kd.R_told (Kd.R_told (Kd.R_told (Kd.R_old (ra_ HO426.out) hb) (Kd.R_base ho0)) (Kd.R_base ho1)) (Kd.R_base ho2)) (Kd.R_base ho4)) (Kd.R_base ho5)) (fun _ h_ => h_.1)); replace HO432 := Aside0.mk (Kd.R_mono (Kd.R_told (Kd.R_told (Kd.R_told (Kd.R_told (Kd.R_told (Kd.R_old (ra_ HO432.out) hb) (Kd.R_base ho0)) (Kd.R_base ho1)) (Kd.R_base ho2)) (Kd.R_base ho4)) (Kd.R_base ho5)) (fun _ h_ => h_.1)); replace HO435 := Aside0.mk (Kd.R_mono (Kd.R_told (Kd.R_told (Kd.R_told (Kd.R_told (Kd.R_told (Kd.R_old (ra_ HO435.out) hb) (Kd.R_base ho0)) (Kd.R_base ho1)) (Kd.R_base ho2)) (Kd.R_base ho4)) (Kd.R_base ho5)) (fun _ h_ => h_.1)); have HO466 := Aside0.mk (Kd.S_lower (Kd.S_new' (Kd.S_new' (Kd.S_new' ho6 (sl_ HO429.out)) (sl_ HO438.out)) (sl_ HO441.out)) (bz_ HB.out)); have HO469 := Aside0.mk (Kd.S_lower (Kd.S_new' (Kd.S_new' (Kd.S_new' ho7 (sl_ HO429.out)) (sl_ HO438.out)) (sl_ HO441.out)) (bz_ HB.out)); replace HO429 := Aside0.mk (Kd.S_mono (Kd.S_told (Kd.S_told (Kd.S_told (Kd.S_old (sa_ HO429.out) hb) (Kd.S_base ho3)) (Kd.S_base ho6)) (Kd.S_base ho7)) (fun _ h_ => h_.1)); replace HO438 := Aside0.mk (Kd.S_mono (Kd.S_told (Kd.S_told (Kd.S_told (Kd.S_old (sa_ HO438.out) hb) (Kd.S_base ho3)) (Kd.S_base ho6)) (Kd.S_base ho7)) (fun _ h_ => h_.1)); replace HO441 := Aside0.mk (Kd.S_mono (Kd.S_told (Kd.S_told (Kd.S_told (Kd.S_old (sa_ HO441.out) hb) (Kd.S_base ho3)) (Kd.S_base ho6)) (Kd.S_base ho7)) (fun _ h_ => h_.1)); replace BK414 := Aside0.mk (bk_ BK414.out hb); replace HB := Aside0.mk (bs_ HB.out hb); (try clear hb); (try clear ho0); (try clear ho1); (try clear ho2); (try clear ho3); (try clear ho4); (try clear ho5); (try clear ho6); (try clear ho7)) | ((with_reducible refine gate_dst (N := 5) rfl ?_); refine box_event ?hg (N := 5) ?hd (cs := #[.int .i64 0, .int .i64 0, .slice none 0 0, .slice none 0 0, .slice none 0 0, .slice none 0 0, .slice none 0 0, .slice none 0 0, .slice none 0 0, .slice none 0 0, .int .i64 0]) (t := 55) ?hr ?_; (case hd => rfl); (case hg => rfl); (case hr => first | (go_simp; done) | (go_simp; rfl)); intro gb471 hg w31 hbox hb; replace HO420 := Aside0.mk (Kd.R_below (ra_ HO420.out) hb); replace HO423 := Aside0.mk (Kd.R_below (ra_ HO423.out) hb); replace HO426 := Aside0.mk (Kd.R_below (ra_ HO426.out) hb); replace HO429 := Aside0.mk (Kd.S_below (sa_ HO429.out) hb); replace HO432 := Aside0.mk (Kd.R_below (ra_ HO432.out) hb); replace HO435 := Aside0.mk (Kd.R_below (ra_ HO435.out) hb); replace HO438 := Aside0.mk (Kd.S_below (sa_ HO438.out) hb); replace HO441 := Aside0.mk (Kd.S_below (sa_ HO441.out) hb); replace HO448 := Aside0.mk (Kd.R_below (ra_ HO448.out) hb); replace HO451 := Aside0.mk (Kd.R_below (ra_ HO451.out) hb); replace HO454 := Aside0.mk (Kd.R_below (ra_ HO454.out) hb); replace HO457 := Aside0.mk (Kd.S_below (sa_ HO457.out) hb); replace HO460 := Aside0.mk (Kd.R_below (ra_ HO460.out) hb); replace HO463 := Aside0.mk (Kd.R_below (ra_ HO463.out) hb); replace HO466 := Aside0.mk (Kd.S_below (sa_ HO466.out) hb); replace HO469 := Aside0.mk (Kd.S_below (sa_ HO469.out) hb); have BK471 := Aside0.mk (hbox); have GW471 := Aside0.mk ((by rw [hg]; exact (bz_ HB.out) : w.heap.size ≤ gb471)); have GE471 := Aside0.mk ((by rw [hg]; exact (bz_ HB.out) : w.heap.size ≤ gb471)); replace HB := Aside0.mk (bs_ HB.out hb); have NB414_471 := Aside0.mk ((by rw [hg]; exact Nat.ne_of_lt (bl_ BK414.out) : gb414 ≠ gb471)); have NB471_414 := Aside0.mk ((by rw [hg]; exact Nat.ne_of_gt (bl_ BK414.out) : gb471 ≠ gb414)); replace BK414 := Aside0.mk (bk_ BK414.out hb); clear hb hbox hg; have hnb32 := NB471_414.out; have hnc32 := NB414_471.out; obtain ⟨hcz33_0, hcz33_1, hcz33_2, hcz33_3, hcz33_4, hcz33_5, hcz33_6, hcz33_7, hcz33_8, hcz33_9, hcz33_10, hfz33_0, hfz33_1, hfz33_2, hfz33_3, hfz33_4, hfz33_5, hfz33_6, hfz33_7, hfz33_8, hfz33_9, hfz33_10⟩ := cz11_ BK471.out; obtain ⟨Ao34, co34, eo34⟩ := Kd.R_slice HO448.out; subst eo34; obtain ⟨Ao35, co35, eo35⟩ := Kd.R_slice HO451.out; subst eo35; obtain ⟨Ao36, co36, eo36⟩ := Kd.R_slice HO454.out; subst eo36; obtain ⟨Ao37, co37, eo37⟩ := Kd.S_slice HO457.out; subst eo37; obtain ⟨Ao38, co38, eo38⟩ := Kd.R_slice HO460.out; subst eo38; obtain ⟨Ao39, co39, eo39⟩ := Kd.R_slice HO463.out; subst eo39; obtain ⟨Ao40, co40, eo40⟩ := Kd.S_slice HO466.out; subst eo40; obtain ⟨Ao41, co41, eo41⟩ := Kd.S_slice HO469.out; subst eo41) | ((with_reducible refine gate_callee (f := 36) rfl ?_); refine gm_ (some 18) Try.func36 #[.agg #[.int .i64 t444, .int .i64 t445, .slice Ao34 t446.length co34, .slice Ao35 t449.length co35, .slice Ao36 t452.length co36, .slice Ao37 t455.length co37, .slice Ao38 t458.length co38, .slice Ao39 t461.length co39, .slice Ao40 t464.length co40, .slice Ao41 t467.length co41, .int .i64 t470]] rfl ?_; (with_reducible refine (impl_NetOk.calls k t444 t445 _ _ t446 _ _ t449 _ _ t452 _ _ t455 _ _ t458 _ _ t461 _ _ t464 _ _ t467 t470 t472 _ ?side1 ?side2 ?side3 ?side4 ?side5 ?side6 ?side7 ?side8 ?side9 ?side10 ?side11 ?side12 ?side13 ?side14 ?side15 ?side16 A10.out).mono ?_); (case side1 => refine (Kd.R_reads' (e := 3) (base := w.heap.size) (ok := fun k_ => ((((((some k_ ≠ (.slice Ao35 t449.length co35 : Value).ownBlock ∧ (some k_ ≠ (.slice Ao36 t452.length co36 : Value).ownBlock ∧ (some k_ ≠ (.slice Ao38 t458.length co38 : Value).ownBlock ∧ some k_ ≠ (.slice Ao39 t461.length co39 : Value).ownBlock))) ∧ some k_ ≠ (.slice Ao20 t418.length co20 : Value).ownBlock) ∧ some k_ ≠ (.slice Ao21 t421.length co21 : Value).ownBlock) ∧ some k_ ≠ (.slice Ao22 t424.length co22 : Value).ownBlock) ∧ some k_ ≠ (.slice Ao24 t430.length co24 : Value).ownBlock) ∧ some k_ ≠ (.slice Ao25 t433.length co25 : Value).ownBlock)) (n := t446.length) (c := co34) ?_).2.2; exact (rm_ (Kd.R_types HO448.out BK471.out (by decide)) (fun _ h_ => h_.1))); (case side2 => exact (Kd.R_reads' HO448.out).2.1); (case side3 => refine (Kd.R_reads' (e := 3) (base := w.heap.size) (ok := fun k_ => ((((((some k_ ≠ (.slice Ao34 t446.length co34 : Value).ownBlock ∧ (some k_ ≠ (.slice Ao36 t452.length co36 : Value).ownBlock ∧ (some k_ ≠ (.slice Ao38 t458.length co38 : Value).ownBlock ∧ some k_ ≠ (.slice Ao39 t461.length co39 : Value).ownBlock))) ∧ some k_ ≠ (.slice Ao20 t418.length co20 : Value).ownBlock) ∧ some k_ ≠ (.slice Ao21 t421.length co21 : Value).ownBlock) ∧ some k_ ≠ (.slice Ao22 t424.length co22 : Value).ownBlock) ∧ some k_ ≠ (.slice Ao24 t430.length co24 : Value).ownBlock) ∧ some k_ ≠ (.slice Ao25 t433.length co25 : Value).ownBlock)) (n := t449.length) (c := co35) ?_).2.2; exact (rm_ (Kd.R_types HO451.out BK471.out (by decide)) (fun _ h_ => h_.1))); (case side4 => exact (Kd.R_reads' HO451.out).2.1); (case side5 => refine (Kd.R_reads' (e := 3) (base := w.heap.size) (ok := fun k_ => ((((((some k_ ≠ (.slice Ao34 t446.length co34 : Value).ownBlock ∧ (some k_ ≠ (.slice Ao35 t449.length co35 : Value).ownBlock ∧ (some k_ ≠ (.slice Ao38 t458.length co38 : Value).ownBlock ∧ some k_ ≠ (.slice Ao39 t461.length co39 : Value).ownBlock))) ∧ some k_ ≠ (.slice Ao20 t418.length co20 : Value).ownBlock) ∧ some k_ ≠ (.slice Ao21 t421.length co21 : Value).ownBlock) ∧ some k_ ≠ (.slice Ao22 t424.length co22 : Value).ownBlock) ∧ some k_ ≠ (.slice Ao24 t430.length co24 : Value).ownBlock) ∧ some k_ ≠ (.slice Ao25 t433.length co25 : Value).ownBlock)) (n := t452.length) (c := co36) ?_).2.2; exact (rm_ (Kd.R_types HO454.out BK471.out (by decide)) (fun _ h_ => h_.1))); (case side6 => exact (Kd.R_reads' HO454.out).2.1); (case side7 => refine (Kd.S_reads' (e := 118) (base := w.heap.size) (ok := fun k_ => ((((some k_ ≠ (.slice Ao40 t464.length co40 : Value).ownBlock ∧ some k_ ≠ (.slice Ao41 t467.length co41 : Value).ownBlock) ∧ some k_ ≠ (.slice Ao23 t427.length co23 : Value).ownBlock) ∧ some k_ ≠ (.slice Ao26 t436.length co26 : Value).ownBlock) ∧ some k_ ≠ (.slice Ao27 t439.length co27 : Value).ownBlock)) (n := t455.length) (c := co37) ?_).2.2; exact (sm_ (Kd.S_types HO457.out BK471.out (by decide)) (fun _ h_ => h_.1))); (case side8 => exact (Kd.S_reads' HO457.out).2.1); (case side9 => refine (Kd.R_reads' (e := 3) (base := w.heap.size) (ok := fun k_ => ((((((some k_ ≠ (.slice Ao34 t446.length co34 : Value).ownBlock ∧ (some k_ ≠ (.slice Ao35 t449.length co35 : Value).ownBlock ∧ (some k_ ≠ (.slice Ao36 t452.length co36 : Value).ownBlock ∧ some k_ ≠ (.slice Ao39 t461.length co39 : Value).ownBlock))) ∧ some k_ ≠ (.slice Ao20 t418.length co20 : Value).ownBlock) ∧ some k_ ≠ (.slice Ao21 t421.length co21 : Value).ownBlock) ∧ some k_ ≠ (.slice Ao22 t424.length co22 : Value).ownBlock) ∧ some k_ ≠ (.slice Ao24 t430.length co24 : Value).ownBlock) ∧ some k_ ≠ (.slice Ao25 t433.length co25 : Value).ownBlock)) (n := t458.length) (c := co38) ?_).2.2; exact (rm_ (Kd.R_types HO460.out BK471.out (by decide)) (fun _ h_ => h_.1))); (case side10 => exact (Kd.R_reads' HO460.out).2.1); (case side11 => refine (Kd.R_reads' (e := 3) (base := w.heap.size) (ok := fun k_ => ((((((some k_ ≠ (.slice Ao34 t446.length co34 : Value).ownBlock ∧ (some k_ ≠ (.slice Ao35 t449.length co35 : Value).ownBlock ∧ (some k_ ≠ (.slice Ao36 t452.length co36 : Value).ownBlock ∧ some k_ ≠ (.slice Ao38 t458.length co38 : Value).ownBlock))) ∧ some k_ ≠ (.slice Ao20 t418.length co20 : Value).ownBlock) ∧ some k_ ≠ (.slice Ao21 t421.length co21 : Value).ownBlock) ∧ some k_ ≠ (.slice Ao22 t424.length co22 : Value).ownBlock) ∧ some k_ ≠ (.slice Ao24 t430.length co24 : Value).ownBlock) ∧ some k_ ≠ (.slice Ao25 t433.length co25 : Value).ownBlock)) (n := t461.length) (c := co39) ?_).2.2; exact (rm_ (Kd.R_types HO463.out BK471.out (by decide)) (fun _ h_ => h_.1))); (case side12 => exact (Kd.R_reads' HO463.out).2.1); (case side13 => refine (Kd.S_reads' (e := 118) (base := w.heap.size) (ok := fun k_ => ((((some k_ ≠ (.slice Ao37 t455.length co37 : Value).ownBlock ∧ some k_ ≠ (.slice Ao41 t467.length co41 : Value).ownBlock) ∧ some k_ ≠ (.slice Ao23 t427.length co23 : Value).ownBlock) ∧ some k_ ≠ (.slice Ao26 t436.length co26 : Value).ownBlock) ∧ some k_ ≠ (.slice Ao27 t439.length co27 : Value).ownBlock)) (n := t464.length) (c := co40) ?_).2.2; exact (sm_ (Kd.S_types HO466.out BK471.out (by decide)) (fun _ h_ => h_.1))); (case side14 => exact (Kd.S_reads' HO466.out).2.1); (case side15 => refine (Kd.S_reads' (e := 118) (base := w.heap.size) (ok := fun k_ => ((((some k_ ≠ (.slice Ao37 t455.length co37 : Value).ownBlock ∧ some k_ ≠ (.slice Ao40 t464.length co40 : Value).ownBlock) ∧ some k_ ≠ (.slice Ao23 t427.length co23 : Value).ownBlock) ∧ some k_ ≠ (.slice Ao26 t436.length co26 : Value).ownBlock) ∧ some k_ ≠ (.slice Ao27 t439.length co27 : Value).ownBlock)) (n := t467.length) (c := co41) ?_).2.2; exact (sm_ (Kd.S_types HO469.out BK471.out (by decide)) (fun _ h_ => h_.1))); (case side16 => exact (Kd.S_reads' HO469.out).2.1); rintro e w42 ⟨rfl, hb⟩; refine ⟨_, rfl, ?_⟩; replace HO420 := Aside0.mk (Kd.R_below (rm_ (Kd.R_types HO420.out BK471.out (by decide)) (fun _ h_ => h_.1)) hb); replace HO423 := Aside0.mk (Kd.R_below (rm_ (Kd.R_types HO423.out BK471.out (by decide)) (fun _ h_ => h_.1)) hb); replace HO426 := Aside0.mk (Kd.R_below (rm_ (Kd.R_types HO426.out BK471.out (by decide)) (fun _ h_ => h_.1)) hb); replace HO429 := Aside0.mk (Kd.S_below (sm_ (Kd.S_types HO429.out BK471.out (by decide)) (fun _ h_ => h_.1)) hb); replace HO432 := Aside0.mk (Kd.R_below (rm_ (Kd.R_types HO432.out BK471.out (by decide)) (fun _ h_ => h_.1)) hb); replace HO435 := Aside0.mk (Kd.R_below (rm_ (Kd.R_types HO435.out BK471.out (by decide)) (fun _ h_ => h_.1)) hb); replace HO438 := Aside0.mk (Kd.S_below (sm_ (Kd.S_types HO438.out BK471.out (by decide)) (fun _ h_ => h_.1)) hb); replace HO441 := Aside0.mk (Kd.S_below (sm_ (Kd.S_types HO441.out BK471.out (by decide)) (fun _ h_ => h_.1)) hb); replace HO448 := Aside0.mk (Kd.R_below (rm_ (Kd.R_types HO448.out BK471.out (by decide)) (fun _ h_ => h_.1)) hb); replace HO451 := Aside0.mk (Kd.R_below (rm_ (Kd.R_types HO451.out BK471.out (by decide)) (fun _ h_ => h_.1)) hb); replace HO454 := Aside0.mk (Kd.R_below (rm_ (Kd.R_types HO454.out BK471.out (by decide)) (fun _ h_ => h_.1)) hb); replace HO457 := Aside0.mk (Kd.S_below (sm_ (Kd.S_types HO457.out BK471.out (by decide)) (fun _ h_ => h_.1)) hb); replace HO460 := Aside0.mk (Kd.R_below (rm_ (Kd.R_types HO460.out BK471.out (by decide)) (fun _ h_ => h_.1)) hb); replace HO463 := Aside0.mk (Kd.R_below (rm_ (Kd.R_types HO463.out BK471.out (by decide)) (fun _ h_ => h_.1)) hb); replace HO466 := Aside0.mk (Kd.S_below (sm_ (Kd.S_types HO466.out BK471.out (by decide)) (fun _ h_ => h_.1)) hb); replace HO469 := Aside0.mk (Kd.S_below (sm_ (Kd.S_types HO469.out BK471.out (by decide)) (fun _ h_ => h_.1)) hb); replace BK414 := Aside0.mk (blk_below (bf_ BK414.out) hb); replace BK471 := Aside0.mk (blk_below (g := gb471) (o := .cells #[.int .i64 t444, .int .i64 t445, .slice Ao34 t446.length co34, .slice Ao35 t449.length co35, .slice Ao36 t452.length co36, .slice Ao37 t455.length co37, .slice Ao38 t458.length co38, .slice Ao39 t461.length co39, .slice Ao40 t464.length co40, .slice Ao41 t467.length co41, .int .i64 t470] 55 (0, 0)) (by (with_reducible repeat (first | refine blk_drewN ?_ _ | refine blk_drew ?_ | refine blk_alloc ?_ _)); refine blk_put (cs := #[.int .i64 t444, .int .i64 t445, .slice Ao34 t446.length co34, .slice Ao35 t449.length co35, .slice Ao36 t452.length co36, .slice Ao37 t455.length co37, .slice Ao38 t458.length co38, .slice Ao39 t461.length co39, .slice Ao40 t464.length co40, .slice Ao41 t467.length co41, .int .i64 0]) ?_ 10 _ rfl; (with_reducible repeat (first | refine blk_drewN ?_ _ | refine blk_drew ?_ | refine blk_alloc ?_ _)); refine blk_put (cs := #[.int .i64 t444, .int .i64 t445, .slice Ao34 t446.length co34, .slice Ao35 t449.length co35, .slice Ao36 t452.length co36, .slice Ao37 t455.length co37, .slice Ao38 t458.length co38, .slice Ao39 t461.length co39, .slice Ao40 t464.length co40, .slice none 0 0, .int .i64 0]) ?_ 9 _ rfl; (with_reducible repeat (first | refine blk_drewN ?_ _ | refine blk_drew ?_ | refine blk_alloc ?_ _)); refine blk_put (cs := #[.int .i64 t444, .int .i64 t445, .slice Ao34 t446.length co34, .slice Ao35 t449.length co35, .slice Ao36 t452.length co36, .slice Ao37 t455.length co37, .slice Ao38 t458.length co38, .slice Ao39 t461.length co39, .slice none 0 0, .slice none 0 0, .int .i64 0]) ?_ 8 _ rfl; (with_reducible repeat (first | refine blk_drewN ?_ _ | refine blk_drew ?_ | refine blk_alloc ?_ _)); refine blk_put (cs := #[.int .i64 t444, .int .i64 t445, .slice Ao34 t446.length co34, .slice Ao35 t449.length co35, .slice Ao36 t452.length co36, .slice Ao37 t455.length co37, .slice Ao38 t458.length co38, .slice none 0 0, .slice none 0 0, .slice none 0 0, .int .i64 0]) ?_ 7 _ rfl; (with_reducible repeat (first | refine blk_drewN ?_ _ | refine blk_drew ?_ | refine blk_alloc ?_ _)); refine blk_put (cs := #[.int .i64 t444, .int .i64 t445, .slice Ao34 t446.length co34, .slice Ao35 t449.length co35, .slice Ao36 t452.length co36, .slice Ao37 t455.length co37, .slice none 0 0, .slice none 0 0, .slice none 0 0, .slice none 0 0, .int .i64 0]) ?_ 6 _ rfl; (with_reducible repeat (first | refine blk_drewN ?_ _ | refine blk_drew ?_ | refine blk_alloc ?_ _)); refine blk_put (cs := #[.int .i64 t444, .int .i64 t445, .slice Ao34 t446.length co34, .slice Ao35 t449.length co35, .slice Ao36 t452.length co36, .slice none 0 0, .slice none 0 0, .slice none 0 0, .slice none 0 0, .slice none 0 0, .int .i64 0]) ?_ 5 _ rfl; (with_reducible repeat (first | refine blk_drewN ?_ _ | refine blk_drew ?_ | refine blk_alloc ?_ _)); refine blk_put (cs := #[.int .i64 t444, .int .i64 t445, .slice Ao34 t446.length co34, .slice Ao35 t449.length co35, .slice none 0 0, .slice none 0 0, .slice none 0 0, .slice none 0 0, .slice none 0 0, .slice none 0 0, .int .i64 0]) ?_ 4 _ rfl; (with_reducible repeat (first | refine blk_drewN ?_ _ | refine blk_drew ?_ | refine blk_alloc ?_ _)); refine blk_put (cs := #[.int .i64 t444, .int .i64 t445, .slice Ao34 t446.length co34, .slice none 0 0, .slice none 0 0, .slice none 0 0, .slice none 0 0, .slice none 0 0, .slice none 0 0, .slice none 0 0, .int .i64 0]) ?_ 3 _ rfl; (with_reducible repeat (first | refine blk_drewN ?_ _ | refine blk_drew ?_ | refine blk_alloc ?_ _)); refine blk_put (cs := #[.int .i64 t444, .int .i64 t445, .slice none 0 0, .slice none 0 0, .slice none 0 0, .slice none 0 0, .slice none 0 0, .slice none 0 0, .slice none 0 0, .slice none 0 0, .int .i64 0]) ?_ 2 _ rfl; (with_reducible repeat (first | refine blk_drewN ?_ _ | refine blk_drew ?_ | refine blk_alloc ?_ _)); refine blk_put (cs := #[.int .i64 t444, .int .i64 0, .slice none 0 0, .slice none 0 0, .slice none 0 0, .slice none 0 0, .slice none 0 0, .slice none 0 0, .slice none 0 0, .slice none 0 0, .int .i64 0]) ?_ 1 _ rfl; (with_reducible repeat (first | refine blk_drewN ?_ _ | refine blk_drew ?_ | refine blk_alloc ?_ _)); refine blk_put (cs := #[.int .i64 0, .int .i64 0, .slice none 0 0, .slice none 0 0, .slice none 0 0, .slice none 0 0, .slice none 0 0, .slice none 0 0, .slice none 0 0, .slice none 0 0, .int .i64 0]) ?_ 0 _ rfl; (with_reducible repeat (first | refine blk_drewN ?_ _ | refine blk_drew ?_ | refine blk_alloc ?_ _)); exact BK471.out) hb); replace HB := Aside0.mk (bs_ HB.out hb); (try clear hb)))
    have n0_ := Aside0.mk (Kd.R_drew HO420.out)
    have n1_ := Aside0.mk (Kd.R_drew HO423.out)
    have n2_ := Aside0.mk (Kd.R_drew HO426.out)
    have n3_ := Aside0.mk (Kd.S_drew HO429.out)
    have n4_ := Aside0.mk (Kd.R_drew HO432.out)
    have n5_ := Aside0.mk (Kd.R_drew HO435.out)
    have n6_ := Aside0.mk (Kd.S_drew HO438.out)
    have n7_ := Aside0.mk (Kd.S_drew HO441.out)
    have n8_ := Aside0.mk (Kd.R_drew HO448.out)
    have n9_ := Aside0.mk (Kd.R_drew HO451.out)
    have n10_ := Aside0.mk (Kd.R_drew HO454.out)
    have n11_ := Aside0.mk (Kd.S_drew HO457.out)
    have n12_ := Aside0.mk (Kd.R_drew HO460.out)
    have n13_ := Aside0.mk (Kd.R_drew HO463.out)
    have n14_ := Aside0.mk (Kd.S_drew HO466.out)
    have n15_ := Aside0.mk (Kd.S_drew HO469.out)
    have n16_ := Aside0.mk (blk_drew BK414.out)
    have n17_ := Aside0.mk (blk_drew BK471.out)
    have n18_ := Aside0.mk (below_drew1 HB.out)
    clear HO420
    clear HO423
    clear HO426
    clear HO429
    clear HO432
    clear HO435
    clear HO438
    clear HO441
    clear HO448
    clear HO451
    clear HO454
    clear HO457
    clear HO460
    clear HO463
    clear HO466
    clear HO469
    clear BK414
    clear BK471
    clear HB
    have HO420 := n0_
    have HO423 := n1_
    have HO426 := n2_
    have HO429 := n3_
    have HO432 := n4_
    have HO435 := n5_
    have HO438 := n6_
    have HO441 := n7_
    have HO448 := n8_
    have HO451 := n9_
    have HO454 := n10_
    have HO457 := n11_
    have HO460 := n12_
    have HO463 := n13_
    have HO466 := n14_
    have HO469 := n15_
    have BK414 := n16_
    have BK471 := n17_
    have HB := n18_
    clear n0_ n1_ n2_ n3_ n4_ n5_ n6_ n7_ n8_ n9_ n10_ n11_ n12_ n13_ n14_ n15_ n16_ n17_ n18_
    refine start_ (n := 5) (S := fun w' => w'.cell? ⟨gb471, 0, none⟩ = some (.int .i64 t444) ∧ w'.cell? ⟨gb471, 1, none⟩ = some (.int .i64 t445) ∧ w'.cell? ⟨gb471, 2, none⟩ = some (.slice Ao34 t446.length co34) ∧ w'.cell? ⟨gb471, 3, none⟩ = some (.slice Ao35 t449.length co35) ∧ w'.cell? ⟨gb471, 4, none⟩ = some (.slice Ao36 t452.length co36) ∧ w'.cell? ⟨gb471, 5, none⟩ = some (.slice Ao37 t455.length co37) ∧ w'.cell? ⟨gb471, 6, none⟩ = some (.slice Ao38 t458.length co38) ∧ w'.cell? ⟨gb471, 7, none⟩ = some (.slice Ao39 t461.length co39) ∧ w'.cell? ⟨gb471, 8, none⟩ = some (.slice Ao40 t464.length co40) ∧ w'.cell? ⟨gb471, 9, none⟩ = some (.slice Ao41 t467.length co41) ∧ w'.cell? ⟨gb471, 10, none⟩ = some (.int .i64 t470) ∧ w'.cell? ⟨gb414, 0, none⟩ = some (.int .i64 a0_0) ∧ w'.cell? ⟨gb414, 1, none⟩ = some (.int .i64 a0_1) ∧ w'.cell? ⟨gb414, 2, none⟩ = some (.slice A0_2 l0_2.length c0_2) ∧ w'.cell? ⟨gb414, 3, none⟩ = some (.slice A0_3 l0_3.length c0_3) ∧ w'.cell? ⟨gb414, 4, none⟩ = some (.slice A0_4 l0_4.length c0_4) ∧ w'.cell? ⟨gb414, 5, none⟩ = some (.slice A0_5 l0_5.length c0_5) ∧ w'.cell? ⟨gb414, 6, none⟩ = some (.slice A0_6 l0_6.length c0_6) ∧ w'.cell? ⟨gb414, 7, none⟩ = some (.slice A0_7 l0_7.length c0_7) ∧ w'.cell? ⟨gb414, 8, none⟩ = some (.slice A0_8 l0_8.length c0_8) ∧ w'.cell? ⟨gb414, 9, none⟩ = some (.slice A0_9 l0_9.length c0_9) ∧ w'.cell? ⟨gb414, 10, none⟩ = some (.int .i64 a0_10)) (ds := []) #[false, false, false, false, false] (by kernel_rfl) rfl rfl ⟨(blk_cell BK471.out 0).trans rfl, (blk_cell BK471.out 1).trans rfl, (blk_cell BK471.out 2).trans rfl, (blk_cell BK471.out 3).trans rfl, (blk_cell BK471.out 4).trans rfl, (blk_cell BK471.out 5).trans rfl, (blk_cell BK471.out 6).trans rfl, (blk_cell BK471.out 7).trans rfl, (blk_cell BK471.out 8).trans rfl, (blk_cell BK471.out 9).trans rfl, (blk_cell BK471.out 10).trans rfl, (blk_cell BK414.out 0).trans rfl, (blk_cell BK414.out 1).trans rfl, (blk_cell BK414.out 2).trans rfl, (blk_cell BK414.out 3).trans rfl, (blk_cell BK414.out 4).trans rfl, (blk_cell BK414.out 5).trans rfl, (blk_cell BK414.out 6).trans rfl, (blk_cell BK414.out 7).trans rfl, (blk_cell BK414.out 8).trans rfl, (blk_cell BK414.out 9).trans rfl, (blk_cell BK414.out 10).trans rfl⟩ (fun hHeld => ?_)
    generalize w42.drew = w43 at HO420 HO423 HO426 HO429 HO432 HO435 HO438 HO441 HO448 HO451 HO454 HO457 HO460 HO463 HO466 HO469 BK414 BK471 HB hHeld ⊢
    refine take_ (i := 0) (N := some 22) (v := ?_) (a' := ?_) (bt_ 5 1) rfl rfl (by kernel_rfl) (fun _ _ _ h => h) (Or.inl ⟨by rfl, ?_⟩) hHeld ?_ ?_
    rotate_left
    ·rintro w' ⟨s0, s1, s2, s3, s4, s5, s6, s7, s8, s9, s10, s11, s12, s13, s14, s15, s16, s17, s18, s19, s20, s21⟩
     go_simp
     with_reducible rfl
    rotate_left
    ·simp only [Act.put, List.setIfInBounds_toArray, List.set_cons_zero, List.set_cons_succ, i64_w, i32_w]
     rfl
    refine take_ (i := 1) (N := some 23) (v := ?_) (a' := ?_) (bt_ 5 3) rfl rfl (by kernel_rfl) (fun _ _ _ h => h) (Or.inl ⟨by rfl, ?_⟩) hHeld ?_ ?_
    rotate_left
    ·rintro w' ⟨s0, s1, s2, s3, s4, s5, s6, s7, s8, s9, s10, s11, s12, s13, s14, s15, s16, s17, s18, s19, s20, s21⟩
     go_simp
     with_reducible rfl
    rotate_left
    ·simp only [Act.put, List.setIfInBounds_toArray, List.set_cons_zero, List.set_cons_succ, i64_w, i32_w]
     rfl
    refine one_ (i := 2) (N := some 24) (bt_ 5 7) rfl rfl (by kernel_rfl) (by decide) (fun K hK => ?_)
    refine goes_ Try.func50 (by kernel_rfl) rfl #[.agg #[.int .i64 a0_0, .int .i64 a0_1, .slice A0_2 l0_2.length c0_2, .slice A0_3 l0_3.length c0_3, .slice A0_4 l0_4.length c0_4, .slice A0_5 l0_5.length c0_5, .slice A0_6 l0_6.length c0_6, .slice A0_7 l0_7.length c0_7, .slice A0_8 l0_8.length c0_8, .slice A0_9 l0_9.length c0_9, .int .i64 a0_10]] (by rfl) rfl rfl (by (try simp only [List.map_toArray, List.map_cons, List.map_nil]); first | done | rfl | (simp only [List.length_drop, List.length_take]; rfl)) ?_
    with_reducible refine (laws_toNet.calls k a0_0 a0_1 _ _ l0_2 _ _ l0_3 _ _ l0_4 _ _ l0_5 _ _ l0_6 _ _ l0_7 _ _ l0_8 _ _ l0_9 a0_10 t473 t474 t475 t478 t481 t484 t487 t490 t493 t496 t499 _ ?side1 ?side2 ?side3 ?side4 ?side5 ?side6 ?side7 ?side8 ?side9 ?side10 ?side11 ?side12 ?side13 ?side14 ?side15 ?side16 A12.out).mono ?_
    (case side1 => exact cb_ HR0_2.out HB.out)
    (case side2 => exact HC0_2.out)
    (case side3 => exact cb_ HR0_3.out HB.out)
    (case side4 => exact HC0_3.out)
    (case side5 => exact cb_ HR0_4.out HB.out)
    (case side6 => exact HC0_4.out)
    (case side7 => exact cb_ HR0_5.out HB.out)
    (case side8 => exact HC0_5.out)
    (case side9 => exact cb_ HR0_6.out HB.out)
    (case side10 => exact HC0_6.out)
    (case side11 => exact cb_ HR0_7.out HB.out)
    (case side12 => exact HC0_7.out)
    (case side13 => exact cb_ HR0_8.out HB.out)
    (case side14 => exact HC0_8.out)
    (case side15 => exact cb_ HR0_9.out HB.out)
    (case side16 => exact HC0_9.out)
    rintro e w44 ⟨v476, v479, v482, v485, v488, v491, v494, v497, rfl, ho0, ho1, ho2, ho3, ho4, ho5, ho6, ho7, hb⟩
    refine ⟨_, rfl, ?_⟩
    have n0_ := Aside0.mk (Kd.R_mono (Kd.R_told (Kd.R_told (Kd.R_told (Kd.R_told (Kd.R_told (Kd.R_old (ra_ HO420.out) hb) (Kd.R_base ho0)) (Kd.R_base ho1)) (Kd.R_base ho2)) (Kd.R_base ho4)) (Kd.R_base ho5)) (fun _ h_ => h_.1))
    have n1_ := Aside0.mk (Kd.R_mono (Kd.R_told (Kd.R_told (Kd.R_told (Kd.R_told (Kd.R_told (Kd.R_old (ra_ HO423.out) hb) (Kd.R_base ho0)) (Kd.R_base ho1)) (Kd.R_base ho2)) (Kd.R_base ho4)) (Kd.R_base ho5)) (fun _ h_ => h_.1))
    have n2_ := Aside0.mk (Kd.R_mono (Kd.R_told (Kd.R_told (Kd.R_told (Kd.R_told (Kd.R_told (Kd.R_old (ra_ HO426.out) hb) (Kd.R_base ho0)) (Kd.R_base ho1)) (Kd.R_base ho2)) (Kd.R_base ho4)) (Kd.R_base ho5)) (fun _ h_ => h_.1))
    have n3_ := Aside0.mk (Kd.S_mono (Kd.S_told (Kd.S_told (Kd.S_told (Kd.S_old (sa_ HO429.out) hb) (Kd.S_base ho3)) (Kd.S_base ho6)) (Kd.S_base ho7)) (fun _ h_ => h_.1))
    have n4_ := Aside0.mk (Kd.R_mono (Kd.R_told (Kd.R_told (Kd.R_told (Kd.R_told (Kd.R_told (Kd.R_old (ra_ HO432.out) hb) (Kd.R_base ho0)) (Kd.R_base ho1)) (Kd.R_base ho2)) (Kd.R_base ho4)) (Kd.R_base ho5)) (fun _ h_ => h_.1))
    have n5_ := Aside0.mk (Kd.R_mono (Kd.R_told (Kd.R_told (Kd.R_told (Kd.R_told (Kd.R_told (Kd.R_old (ra_ HO435.out) hb) (Kd.R_base ho0)) (Kd.R_base ho1)) (Kd.R_base ho2)) (Kd.R_base ho4)) (Kd.R_base ho5)) (fun _ h_ => h_.1))
    have n6_ := Aside0.mk (Kd.S_mono (Kd.S_told (Kd.S_told (Kd.S_told (Kd.S_old (sa_ HO438.out) hb) (Kd.S_base ho3)) (Kd.S_base ho6)) (Kd.S_base ho7)) (fun _ h_ => h_.1))
    have n7_ := Aside0.mk (Kd.S_mono (Kd.S_told (Kd.S_told (Kd.S_told (Kd.S_old (sa_ HO441.out) hb) (Kd.S_base ho3)) (Kd.S_base ho6)) (Kd.S_base ho7)) (fun _ h_ => h_.1))
    have n8_ := Aside0.mk (Kd.R_mono (Kd.R_told (Kd.R_told (Kd.R_told (Kd.R_told (Kd.R_told (Kd.R_old (ra_ HO448.out) hb) (Kd.R_base ho0)) (Kd.R_base ho1)) (Kd.R_base ho2)) (Kd.R_base ho4)) (Kd.R_base ho5)) (fun _ h_ => h_.1))
    have n9_ := Aside0.mk (Kd.R_mono (Kd.R_told (Kd.R_told (Kd.R_told (Kd.R_told (Kd.R_told (Kd.R_old (ra_ HO451.out) hb) (Kd.R_base ho0)) (Kd.R_base ho1)) (Kd.R_base ho2)) (Kd.R_base ho4)) (Kd.R_base ho5)) (fun _ h_ => h_.1))
    have n10_ := Aside0.mk (Kd.R_mono (Kd.R_told (Kd.R_told (Kd.R_told (Kd.R_told (Kd.R_told (Kd.R_old (ra_ HO454.out) hb) (Kd.R_base ho0)) (Kd.R_base ho1)) (Kd.R_base ho2)) (Kd.R_base ho4)) (Kd.R_base ho5)) (fun _ h_ => h_.1))
    have n11_ := Aside0.mk (Kd.S_mono (Kd.S_told (Kd.S_told (Kd.S_told (Kd.S_old (sa_ HO457.out) hb) (Kd.S_base ho3)) (Kd.S_base ho6)) (Kd.S_base ho7)) (fun _ h_ => h_.1))
    have n12_ := Aside0.mk (Kd.R_mono (Kd.R_told (Kd.R_told (Kd.R_told (Kd.R_told (Kd.R_told (Kd.R_old (ra_ HO460.out) hb) (Kd.R_base ho0)) (Kd.R_base ho1)) (Kd.R_base ho2)) (Kd.R_base ho4)) (Kd.R_base ho5)) (fun _ h_ => h_.1))
    have n13_ := Aside0.mk (Kd.R_mono (Kd.R_told (Kd.R_told (Kd.R_told (Kd.R_told (Kd.R_told (Kd.R_old (ra_ HO463.out) hb) (Kd.R_base ho0)) (Kd.R_base ho1)) (Kd.R_base ho2)) (Kd.R_base ho4)) (Kd.R_base ho5)) (fun _ h_ => h_.1))
    have n14_ := Aside0.mk (Kd.S_mono (Kd.S_told (Kd.S_told (Kd.S_told (Kd.S_old (sa_ HO466.out) hb) (Kd.S_base ho3)) (Kd.S_base ho6)) (Kd.S_base ho7)) (fun _ h_ => h_.1))
    have n15_ := Aside0.mk (Kd.S_mono (Kd.S_told (Kd.S_told (Kd.S_told (Kd.S_old (sa_ HO469.out) hb) (Kd.S_base ho3)) (Kd.S_base ho6)) (Kd.S_base ho7)) (fun _ h_ => h_.1))
    have n16_ := Aside0.mk (Kd.R_lower (Kd.R_new' (Kd.R_new' (Kd.R_new' (Kd.R_new' (Kd.R_new' (Kd.R_new' (Kd.R_new' (Kd.R_new' (Kd.R_new' (Kd.R_new' ho0 (rl_ HO420.out)) (rl_ HO423.out)) (rl_ HO426.out)) (rl_ HO432.out)) (rl_ HO435.out)) (rl_ HO448.out)) (rl_ HO451.out)) (rl_ HO454.out)) (rl_ HO460.out)) (rl_ HO463.out)) (bz_ HB.out))
    have n17_ := Aside0.mk (Kd.R_lower (Kd.R_new' (Kd.R_new' (Kd.R_new' (Kd.R_new' (Kd.R_new' (Kd.R_new' (Kd.R_new' (Kd.R_new' (Kd.R_new' (Kd.R_new' ho1 (rl_ HO420.out)) (rl_ HO423.out)) (rl_ HO426.out)) (rl_ HO432.out)) (rl_ HO435.out)) (rl_ HO448.out)) (rl_ HO451.out)) (rl_ HO454.out)) (rl_ HO460.out)) (rl_ HO463.out)) (bz_ HB.out))
    have n18_ := Aside0.mk (Kd.R_lower (Kd.R_new' (Kd.R_new' (Kd.R_new' (Kd.R_new' (Kd.R_new' (Kd.R_new' (Kd.R_new' (Kd.R_new' (Kd.R_new' (Kd.R_new' ho2 (rl_ HO420.out)) (rl_ HO423.out)) (rl_ HO426.out)) (rl_ HO432.out)) (rl_ HO435.out)) (rl_ HO448.out)) (rl_ HO451.out)) (rl_ HO454.out)) (rl_ HO460.out)) (rl_ HO463.out)) (bz_ HB.out))
    have n19_ := Aside0.mk (Kd.S_lower (Kd.S_new' (Kd.S_new' (Kd.S_new' (Kd.S_new' (Kd.S_new' (Kd.S_new' ho3 (sl_ HO429.out)) (sl_ HO438.out)) (sl_ HO441.out)) (sl_ HO457.out)) (sl_ HO466.out)) (sl_ HO469.out)) (bz_ HB.out))
    have n20_ := Aside0.mk (Kd.R_lower (Kd.R_new' (Kd.R_new' (Kd.R_new' (Kd.R_new' (Kd.R_new' (Kd.R_new' (Kd.R_new' (Kd.R_new' (Kd.R_new' (Kd.R_new' ho4 (rl_ HO420.out)) (rl_ HO423.out)) (rl_ HO426.out)) (rl_ HO432.out)) (rl_ HO435.out)) (rl_ HO448.out)) (rl_ HO451.out)) (rl_ HO454.out)) (rl_ HO460.out)) (rl_ HO463.out)) (bz_ HB.out))
    have n21_ := Aside0.mk (Kd.R_lower (Kd.R_new' (Kd.R_new' (Kd.R_new' (Kd.R_new' (Kd.R_new' (Kd.R_new' (Kd.R_new' (Kd.R_new' (Kd.R_new' (Kd.R_new' ho5 (rl_ HO420.out)) (rl_ HO423.out)) (rl_ HO426.out)) (rl_ HO432.out)) (rl_ HO435.out)) (rl_ HO448.out)) (rl_ HO451.out)) (rl_ HO454.out)) (rl_ HO460.out)) (rl_ HO463.out)) (bz_ HB.out))
    have n22_ := Aside0.mk (Kd.S_lower (Kd.S_new' (Kd.S_new' (Kd.S_new' (Kd.S_new' (Kd.S_new' (Kd.S_new' ho6 (sl_ HO429.out)) (sl_ HO438.out)) (sl_ HO441.out)) (sl_ HO457.out)) (sl_ HO466.out)) (sl_ HO469.out)) (bz_ HB.out))
    have n23_ := Aside0.mk (Kd.S_lower (Kd.S_new' (Kd.S_new' (Kd.S_new' (Kd.S_new' (Kd.S_new' (Kd.S_new' ho7 (sl_ HO429.out)) (sl_ HO438.out)) (sl_ HO441.out)) (sl_ HO457.out)) (sl_ HO466.out)) (sl_ HO469.out)) (bz_ HB.out))
    have n24_ := Aside0.mk (bk_ BK414.out hb)
    have n25_ := Aside0.mk (bk_ BK471.out hb)
    have n26_ := Aside0.mk (bs_ HB.out hb)
    clear HO420
    clear HO423
    clear HO426
    clear HO429
    clear HO432
    clear HO435
    clear HO438
    clear HO441
    clear HO448
    clear HO451
    clear HO454
    clear HO457
    clear HO460
    clear HO463
    clear HO466
    clear HO469
    clear BK414
    clear BK471
    clear HB
    have HO420 := n0_
    have HO423 := n1_
    have HO426 := n2_
    have HO429 := n3_
    have HO432 := n4_
    have HO435 := n5_
    have HO438 := n6_
    have HO441 := n7_
    have HO448 := n8_
    have HO451 := n9_
    have HO454 := n10_
    have HO457 := n11_
    have HO460 := n12_
    have HO463 := n13_
    have HO466 := n14_
    have HO469 := n15_
    have HO477 := n16_
    have HO480 := n17_
    have HO483 := n18_
    have HO486 := n19_
    have HO489 := n20_
    have HO492 := n21_
    have HO495 := n22_
    have HO498 := n23_
    have BK414 := n24_
    have BK471 := n25_
    have HB := n26_
    clear n0_ n1_ n2_ n3_ n4_ n5_ n6_ n7_ n8_ n9_ n10_ n11_ n12_ n13_ n14_ n15_ n16_ n17_ n18_ n19_ n20_ n21_ n22_ n23_ n24_ n25_ n26_
    (try clear hb)
    (try clear hb2)
    (try clear hk)
    (try clear hi)
    (try clear ho0)
    (try clear ho1)
    (try clear ho2)
    (try clear ho3)
    (try clear ho4)
    (try clear ho5)
    (try clear ho6)
    (try clear ho7)
    obtain ⟨Ao45, co45, eo45⟩ := Kd.R_slice HO477.out
    (first | subst eo45 | (injection eo45 with f1_ f2_ f3_; have f4_ := f1_.symm; have f5_ := f3_.symm; clear f1_ f2_ f3_; subst f4_; subst f5_))
    obtain ⟨Ao46, co46, eo46⟩ := Kd.R_slice HO480.out
    (first | subst eo46 | (injection eo46 with f1_ f2_ f3_; have f4_ := f1_.symm; have f5_ := f3_.symm; clear f1_ f2_ f3_; subst f4_; subst f5_))
    obtain ⟨Ao47, co47, eo47⟩ := Kd.R_slice HO483.out
    (first | subst eo47 | (injection eo47 with f1_ f2_ f3_; have f4_ := f1_.symm; have f5_ := f3_.symm; clear f1_ f2_ f3_; subst f4_; subst f5_))
    obtain ⟨Ao48, co48, eo48⟩ := Kd.S_slice HO486.out
    (first | subst eo48 | (injection eo48 with f1_ f2_ f3_; have f4_ := f1_.symm; have f5_ := f3_.symm; clear f1_ f2_ f3_; subst f4_; subst f5_))
    obtain ⟨Ao49, co49, eo49⟩ := Kd.R_slice HO489.out
    (first | subst eo49 | (injection eo49 with f1_ f2_ f3_; have f4_ := f1_.symm; have f5_ := f3_.symm; clear f1_ f2_ f3_; subst f4_; subst f5_))
    obtain ⟨Ao50, co50, eo50⟩ := Kd.R_slice HO492.out
    (first | subst eo50 | (injection eo50 with f1_ f2_ f3_; have f4_ := f1_.symm; have f5_ := f3_.symm; clear f1_ f2_ f3_; subst f4_; subst f5_))
    obtain ⟨Ao51, co51, eo51⟩ := Kd.S_slice HO495.out
    (first | subst eo51 | (injection eo51 with f1_ f2_ f3_; have f4_ := f1_.symm; have f5_ := f3_.symm; clear f1_ f2_ f3_; subst f4_; subst f5_))
    obtain ⟨Ao52, co52, eo52⟩ := Kd.S_slice HO498.out
    (first | subst eo52 | (injection eo52 with f1_ f2_ f3_; have f4_ := f1_.symm; have f5_ := f3_.symm; clear f1_ f2_ f3_; subst f4_; subst f5_))
    refine hK.out _ _ ⟨(blk_cell BK471.out 0).trans rfl, (blk_cell BK471.out 1).trans rfl, (blk_cell BK471.out 2).trans rfl, (blk_cell BK471.out 3).trans rfl, (blk_cell BK471.out 4).trans rfl, (blk_cell BK471.out 5).trans rfl, (blk_cell BK471.out 6).trans rfl, (blk_cell BK471.out 7).trans rfl, (blk_cell BK471.out 8).trans rfl, (blk_cell BK471.out 9).trans rfl, (blk_cell BK471.out 10).trans rfl, (blk_cell BK414.out 0).trans rfl, (blk_cell BK414.out 1).trans rfl, (blk_cell BK414.out 2).trans rfl, (blk_cell BK414.out 3).trans rfl, (blk_cell BK414.out 4).trans rfl, (blk_cell BK414.out 5).trans rfl, (blk_cell BK414.out 6).trans rfl, (blk_cell BK414.out 7).trans rfl, (blk_cell BK414.out 8).trans rfl, (blk_cell BK414.out 9).trans rfl, (blk_cell BK414.out 10).trans rfl⟩ (fun hHeld => ?_)
    clear hK K
    refine norm_ (a' := ?_) ?_ ?_
    rotate_left
    ·show Act.put _ (some 24) _ = _
     simp only [Act.put, List.setIfInBounds_toArray, List.set_cons_zero, List.set_cons_succ, i64_w, i32_w]
     rfl
    refine one_ (i := 3) (N := some 25) (bt_ 5 15) rfl rfl (by kernel_rfl) (by decide) (fun K hK => ?_)
    refine goes_ Try.func52 (by kernel_rfl) rfl #[.agg #[.int .i64 t444, .int .i64 t445, .slice Ao34 t446.length co34, .slice Ao35 t449.length co35, .slice Ao36 t452.length co36, .slice Ao37 t455.length co37, .slice Ao38 t458.length co38, .slice Ao39 t461.length co39, .slice Ao40 t464.length co40, .slice Ao41 t467.length co41, .int .i64 t470], .agg #[.int .i64 t473, .int .i64 t474, .slice Ao45 t475.length co45, .slice Ao46 t478.length co46, .slice Ao47 t481.length co47, .slice Ao48 t484.length co48, .slice Ao49 t487.length co49, .slice Ao50 t490.length co50, .slice Ao51 t493.length co51, .slice Ao52 t496.length co52, .int .i64 t499]] (by rfl) rfl rfl (by (try simp only [List.map_toArray, List.map_cons, List.map_nil]); first | done | rfl | (simp only [List.length_drop, List.length_take]; rfl)) ?_
    with_reducible refine (laws_eqNet.calls k t444 t445 _ _ t446 _ _ t449 _ _ t452 _ _ t455 _ _ t458 _ _ t461 _ _ t464 _ _ t467 t470 t473 t474 _ _ t475 _ _ t478 _ _ t481 _ _ t484 _ _ t487 _ _ t490 _ _ t493 _ _ t496 t499 true _ ?side1 ?side2 ?side3 ?side4 ?side5 ?side6 ?side7 ?side8 ?side9 ?side10 ?side11 ?side12 ?side13 ?side14 ?side15 ?side16 ?side17 ?side18 ?side19 ?side20 ?side21 ?side22 ?side23 ?side24 ?side25 ?side26 ?side27 ?side28 ?side29 ?side30 ?side31 ?side32 A13.out).mono ?_
    (case side1 => repeat (first | exact (Kd.R_reads' HO448.out).2.2 | (with_reducible refine Kd.C_alloc ?_ _) | (with_reducible refine Kd.C_drewN ?_ _) | (with_reducible refine Kd.C_drew ?_)))
    (case side2 => exact (Kd.R_reads' HO448.out).2.1)
    (case side3 => repeat (first | exact (Kd.R_reads' HO451.out).2.2 | (with_reducible refine Kd.C_alloc ?_ _) | (with_reducible refine Kd.C_drewN ?_ _) | (with_reducible refine Kd.C_drew ?_)))
    (case side4 => exact (Kd.R_reads' HO451.out).2.1)
    (case side5 => repeat (first | exact (Kd.R_reads' HO454.out).2.2 | (with_reducible refine Kd.C_alloc ?_ _) | (with_reducible refine Kd.C_drewN ?_ _) | (with_reducible refine Kd.C_drew ?_)))
    (case side6 => exact (Kd.R_reads' HO454.out).2.1)
    (case side7 => repeat (first | exact (Kd.S_reads' HO457.out).2.2 | (with_reducible refine Kd.C_alloc ?_ _) | (with_reducible refine Kd.C_drewN ?_ _) | (with_reducible refine Kd.C_drew ?_)))
    (case side8 => exact (Kd.S_reads' HO457.out).2.1)
    (case side9 => repeat (first | exact (Kd.R_reads' HO460.out).2.2 | (with_reducible refine Kd.C_alloc ?_ _) | (with_reducible refine Kd.C_drewN ?_ _) | (with_reducible refine Kd.C_drew ?_)))
    (case side10 => exact (Kd.R_reads' HO460.out).2.1)
    (case side11 => repeat (first | exact (Kd.R_reads' HO463.out).2.2 | (with_reducible refine Kd.C_alloc ?_ _) | (with_reducible refine Kd.C_drewN ?_ _) | (with_reducible refine Kd.C_drew ?_)))
    (case side12 => exact (Kd.R_reads' HO463.out).2.1)
    (case side13 => repeat (first | exact (Kd.S_reads' HO466.out).2.2 | (with_reducible refine Kd.C_alloc ?_ _) | (with_reducible refine Kd.C_drewN ?_ _) | (with_reducible refine Kd.C_drew ?_)))
    (case side14 => exact (Kd.S_reads' HO466.out).2.1)
    (case side15 => repeat (first | exact (Kd.S_reads' HO469.out).2.2 | (with_reducible refine Kd.C_alloc ?_ _) | (with_reducible refine Kd.C_drewN ?_ _) | (with_reducible refine Kd.C_drew ?_)))
    (case side16 => exact (Kd.S_reads' HO469.out).2.1)
    (case side17 => repeat (first | exact (Kd.R_reads' HO477.out).2.2 | (with_reducible refine Kd.C_alloc ?_ _) | (with_reducible refine Kd.C_drewN ?_ _) | (with_reducible refine Kd.C_drew ?_)))
    (case side18 => exact (Kd.R_reads' HO477.out).2.1)
    (case side19 => repeat (first | exact (Kd.R_reads' HO480.out).2.2 | (with_reducible refine Kd.C_alloc ?_ _) | (with_reducible refine Kd.C_drewN ?_ _) | (with_reducible refine Kd.C_drew ?_)))
    (case side20 => exact (Kd.R_reads' HO480.out).2.1)
    (case side21 => repeat (first | exact (Kd.R_reads' HO483.out).2.2 | (with_reducible refine Kd.C_alloc ?_ _) | (with_reducible refine Kd.C_drewN ?_ _) | (with_reducible refine Kd.C_drew ?_)))
    (case side22 => exact (Kd.R_reads' HO483.out).2.1)
    (case side23 => repeat (first | exact (Kd.S_reads' HO486.out).2.2 | (with_reducible refine Kd.C_alloc ?_ _) | (with_reducible refine Kd.C_drewN ?_ _) | (with_reducible refine Kd.C_drew ?_)))
    (case side24 => exact (Kd.S_reads' HO486.out).2.1)
    (case side25 => repeat (first | exact (Kd.R_reads' HO489.out).2.2 | (with_reducible refine Kd.C_alloc ?_ _) | (with_reducible refine Kd.C_drewN ?_ _) | (with_reducible refine Kd.C_drew ?_)))
    (case side26 => exact (Kd.R_reads' HO489.out).2.1)
    (case side27 => repeat (first | exact (Kd.R_reads' HO492.out).2.2 | (with_reducible refine Kd.C_alloc ?_ _) | (with_reducible refine Kd.C_drewN ?_ _) | (with_reducible refine Kd.C_drew ?_)))
    (case side28 => exact (Kd.R_reads' HO492.out).2.1)
    (case side29 => repeat (first | exact (Kd.S_reads' HO495.out).2.2 | (with_reducible refine Kd.C_alloc ?_ _) | (with_reducible refine Kd.C_drewN ?_ _) | (with_reducible refine Kd.C_drew ?_)))
    (case side30 => exact (Kd.S_reads' HO495.out).2.1)
    (case side31 => repeat (first | exact (Kd.S_reads' HO498.out).2.2 | (with_reducible refine Kd.C_alloc ?_ _) | (with_reducible refine Kd.C_drewN ?_ _) | (with_reducible refine Kd.C_drew ?_)))
    (case side32 => exact (Kd.S_reads' HO498.out).2.1)
    rintro e w53 ⟨rfl, hb⟩
    refine ⟨_, rfl, ?_⟩
    have n0_ := Aside0.mk (Kd.R_below (ra_ HO420.out) hb)
    have n1_ := Aside0.mk (Kd.R_below (ra_ HO423.out) hb)
    have n2_ := Aside0.mk (Kd.R_below (ra_ HO426.out) hb)
    have n3_ := Aside0.mk (Kd.S_below (sa_ HO429.out) hb)
    have n4_ := Aside0.mk (Kd.R_below (ra_ HO432.out) hb)
    have n5_ := Aside0.mk (Kd.R_below (ra_ HO435.out) hb)
    have n6_ := Aside0.mk (Kd.S_below (sa_ HO438.out) hb)
    have n7_ := Aside0.mk (Kd.S_below (sa_ HO441.out) hb)
    have n8_ := Aside0.mk (Kd.R_below (ra_ HO448.out) hb)
    have n9_ := Aside0.mk (Kd.R_below (ra_ HO451.out) hb)
    have n10_ := Aside0.mk (Kd.R_below (ra_ HO454.out) hb)
    have n11_ := Aside0.mk (Kd.S_below (sa_ HO457.out) hb)
    have n12_ := Aside0.mk (Kd.R_below (ra_ HO460.out) hb)
    have n13_ := Aside0.mk (Kd.R_below (ra_ HO463.out) hb)
    have n14_ := Aside0.mk (Kd.S_below (sa_ HO466.out) hb)
    have n15_ := Aside0.mk (Kd.S_below (sa_ HO469.out) hb)
    have n16_ := Aside0.mk (Kd.R_below (ra_ HO477.out) hb)
    have n17_ := Aside0.mk (Kd.R_below (ra_ HO480.out) hb)
    have n18_ := Aside0.mk (Kd.R_below (ra_ HO483.out) hb)
    have n19_ := Aside0.mk (Kd.S_below (sa_ HO486.out) hb)
    have n20_ := Aside0.mk (Kd.R_below (ra_ HO489.out) hb)
    have n21_ := Aside0.mk (Kd.R_below (ra_ HO492.out) hb)
    have n22_ := Aside0.mk (Kd.S_below (sa_ HO495.out) hb)
    have n23_ := Aside0.mk (Kd.S_below (sa_ HO498.out) hb)
    have n24_ := Aside0.mk (bk_ BK414.out hb)
    have n25_ := Aside0.mk (bk_ BK471.out hb)
    have n26_ := Aside0.mk (bs_ HB.out hb)
    clear HO420
    clear HO423
    clear HO426
    clear HO429
    clear HO432
    clear HO435
    clear HO438
    clear HO441
    clear HO448
    clear HO451
    clear HO454
    clear HO457
    clear HO460
    clear HO463
    clear HO466
    clear HO469
    clear HO477
    clear HO480
    clear HO483
    clear HO486
    clear HO489
    clear HO492
    clear HO495
    clear HO498
    clear BK414
    clear BK471
    clear HB
    have HO420 := n0_
    have HO423 := n1_
    have HO426 := n2_
    have HO429 := n3_
    have HO432 := n4_
    have HO435 := n5_
    have HO438 := n6_
    have HO441 := n7_
    have HO448 := n8_
    have HO451 := n9_
    have HO454 := n10_
    have HO457 := n11_
    have HO460 := n12_
    have HO463 := n13_
    have HO466 := n14_
    have HO469 := n15_
    have HO477 := n16_
    have HO480 := n17_
    have HO483 := n18_
    have HO486 := n19_
    have HO489 := n20_
    have HO492 := n21_
    have HO495 := n22_
    have HO498 := n23_
    have BK414 := n24_
    have BK471 := n25_
    have HB := n26_
    clear n0_ n1_ n2_ n3_ n4_ n5_ n6_ n7_ n8_ n9_ n10_ n11_ n12_ n13_ n14_ n15_ n16_ n17_ n18_ n19_ n20_ n21_ n22_ n23_ n24_ n25_ n26_
    (try clear hb)
    (try clear hb2)
    (try clear hk)
    (try clear hi)
    refine hK.out _ _ ⟨(blk_cell BK471.out 0).trans rfl, (blk_cell BK471.out 1).trans rfl, (blk_cell BK471.out 2).trans rfl, (blk_cell BK471.out 3).trans rfl, (blk_cell BK471.out 4).trans rfl, (blk_cell BK471.out 5).trans rfl, (blk_cell BK471.out 6).trans rfl, (blk_cell BK471.out 7).trans rfl, (blk_cell BK471.out 8).trans rfl, (blk_cell BK471.out 9).trans rfl, (blk_cell BK471.out 10).trans rfl, (blk_cell BK414.out 0).trans rfl, (blk_cell BK414.out 1).trans rfl, (blk_cell BK414.out 2).trans rfl, (blk_cell BK414.out 3).trans rfl, (blk_cell BK414.out 4).trans rfl, (blk_cell BK414.out 5).trans rfl, (blk_cell BK414.out 6).trans rfl, (blk_cell BK414.out 7).trans rfl, (blk_cell BK414.out 8).trans rfl, (blk_cell BK414.out 9).trans rfl, (blk_cell BK414.out 10).trans rfl⟩ (fun hHeld => ?_)
    clear hK K
    refine norm_ (a' := ?_) ?_ ?_
    rotate_left
    ·show Act.put _ (some 25) _ = _
     simp only [Act.put, List.setIfInBounds_toArray, List.set_cons_zero, List.set_cons_succ, i64_w, i32_w]
     rfl
    refine pure_ (i := 4) (N := some 26) (v := ?_) (a' := ?_) (bt_ 5 31) rfl rfl (by kernel_rfl) (fun _ _ _ h => h) (Or.inl ⟨by rfl, ?_⟩) ?_ ?_
    rotate_left
    ·intro w'
     go_simp
     with_reducible rfl
    rotate_left
    ·simp only [Act.put, List.setIfInBounds_toArray, List.set_cons_zero, List.set_cons_succ, i64_w, i32_w]
     rfl
    refine done_ (by kernel_rfl) ?_
    try go_wp2
    go_ret
    exact ⟨fin_, bb_ HB.out⟩
   ·replace c14 := Bool.eq_false_iff.mpr c14
    subst c14
    rw [if_neg (show ¬ (false = true) by decide)] at H
    exact absurd H (by simp)

end Go.Proofs.Ytogapggfegplkaa.PFnExactNetOk
-- thin
