/- Each function that the law comes to, as a plain function, with the proof that the call in the model gives what that function says (written by a program of this session out of the translation). No condition. -/
import Derived.Test.YtogapggfegplkaaPFnExactSameNetx0
import Derived.Test.YtogapggfegplkaaPFnExactSameNetx3
import Derived.Test.YtogapggfegplkaaPFnExactSameNetx5
import Derived.Test.YtogapggfegplkaaPFnExactSameNetx6
import Derived.Test.YtogapggfegplkaaPFnExactSameNetx7
import Derived.Test.YtogapggfegplkaaPFnExactSameNetx9
namespace Go.Proofs.Ytogapggfegplkaa.PFnExactSameNet
open Go.RowKit Go.Proofs.YtogapggfegplkaaW.PrintWords Go.Proofs.YtogapggfegplkaaW.PrintLast Go.Proofs.YtogapggfegplkaaW.PrintMore
attribute [local go_sem] max2_int min2_int max_two min_two max_three min_three max_four min_four   -- for this text's walks alone
set_option linter.unusedVariables false
set_option linter.unusedSimpArgs false

/-! ### laws_FnExactSameNet: function 10 -/
def laws_FnExactSameNet.f (k : Nat) (a0_0 : Int) (a0_1 : Int) (l0_2 : List Int) (l0_3 : List Int) (l0_4 : List Int) (l0_5 : List (List (S183))) (l0_6 : List Int) (l0_7 : List Int) (l0_8 : List (List (S183))) (l0_9 : List (List (S183))) (a0_10 : Int) (a1_0 : Int) (a1_1 : Int) (l1_2 : List Int) (l1_3 : List Int) (l1_4 : List Int) (l1_5 : List (List (S183))) (l1_6 : List Int) (l1_7 : List Int) (l1_8 : List (List (S183))) (l1_9 : List (List (S183))) (a1_10 : Int) : Option (Bool) := (laws_szNet.f k a0_0 a0_1 l0_2 l0_3 l0_4 l0_5 l0_6 l0_7 l0_8 l0_9 a0_10 1048576).bind fun t271 => (if t271 < 0 then (some true) else ((laws_szNet.f k a1_0 a1_1 l1_2 l1_3 l1_4 l1_5 l1_6 l1_7 l1_8 l1_9 a1_10 t271).bind fun t272 => (if t272 < 0 then (some true) else ((laws_toNet.f k a0_0 a0_1 l0_2 l0_3 l0_4 l0_5 l0_6 l0_7 l0_8 l0_9 a0_10).bind fun bt273 => ((laws_toNet.f k a1_0 a1_1 l1_2 l1_3 l1_4 l1_5 l1_6 l1_7 l1_8 l1_9 a1_10).bind fun bt300 => ((spec_SameNet.f k bt273.1 bt273.2.1 bt273.2.2.1 bt273.2.2.2.1 bt273.2.2.2.2.1 bt273.2.2.2.2.2.1 bt273.2.2.2.2.2.2.1 bt273.2.2.2.2.2.2.2.1 bt273.2.2.2.2.2.2.2.2.1 bt273.2.2.2.2.2.2.2.2.2.1 bt273.2.2.2.2.2.2.2.2.2.2 bt300.1 bt300.2.1 bt300.2.2.1 bt300.2.2.2.1 bt300.2.2.2.2.1 bt300.2.2.2.2.2.1 bt300.2.2.2.2.2.2.1 bt300.2.2.2.2.2.2.2.1 bt300.2.2.2.2.2.2.2.2.1 bt300.2.2.2.2.2.2.2.2.2.1 bt300.2.2.2.2.2.2.2.2.2.2).bind fun t327 => ((laws_toNet.f k a0_0 a0_1 l0_2 l0_3 l0_4 l0_5 l0_6 l0_7 l0_8 l0_9 a0_10).bind fun bt328 => ((laws_toNet.f k a1_0 a1_1 l1_2 l1_3 l1_4 l1_5 l1_6 l1_7 l1_8 l1_9 a1_10).bind fun bt356 => ((impl_SameNet.f k bt328.1 bt328.2.1 bt328.2.2.1 bt328.2.2.2.1 bt328.2.2.2.2.1 bt328.2.2.2.2.2.1 bt328.2.2.2.2.2.2.1 bt328.2.2.2.2.2.2.2.1 bt328.2.2.2.2.2.2.2.2.1 bt328.2.2.2.2.2.2.2.2.2.1 bt328.2.2.2.2.2.2.2.2.2.2 bt356.1 bt356.2.1 bt356.2.2.1 bt356.2.2.2.1 bt356.2.2.2.2.1 bt356.2.2.2.2.2.1 bt356.2.2.2.2.2.2.1 bt356.2.2.2.2.2.2.2.1 bt356.2.2.2.2.2.2.2.2.1 bt356.2.2.2.2.2.2.2.2.2.1 bt356.2.2.2.2.2.2.2.2.2.2).bind fun t384 => (if (t384 != t327) = true then (none) else ((laws_toNet.f k a0_0 a0_1 l0_2 l0_3 l0_4 l0_5 l0_6 l0_7 l0_8 l0_9 a0_10).bind fun bt385 => ((laws_eqNet.f k bt328.1 bt328.2.1 bt328.2.2.1 bt328.2.2.2.1 bt328.2.2.2.2.1 bt328.2.2.2.2.2.1 bt328.2.2.2.2.2.2.1 bt328.2.2.2.2.2.2.2.1 bt328.2.2.2.2.2.2.2.2.1 bt328.2.2.2.2.2.2.2.2.2.1 bt328.2.2.2.2.2.2.2.2.2.2 bt385.1 bt385.2.1 bt385.2.2.1 bt385.2.2.2.1 bt385.2.2.2.2.1 bt385.2.2.2.2.2.1 bt385.2.2.2.2.2.2.1 bt385.2.2.2.2.2.2.2.1 bt385.2.2.2.2.2.2.2.2.1 bt385.2.2.2.2.2.2.2.2.2.1 bt385.2.2.2.2.2.2.2.2.2.2).bind fun t412 => (if t412 = true then ((laws_toNet.f k a1_0 a1_1 l1_2 l1_3 l1_4 l1_5 l1_6 l1_7 l1_8 l1_9 a1_10).bind fun bt413 => ((laws_eqNet.f k bt356.1 bt356.2.1 bt356.2.2.1 bt356.2.2.2.1 bt356.2.2.2.2.1 bt356.2.2.2.2.2.1 bt356.2.2.2.2.2.2.1 bt356.2.2.2.2.2.2.2.1 bt356.2.2.2.2.2.2.2.2.1 bt356.2.2.2.2.2.2.2.2.2.1 bt356.2.2.2.2.2.2.2.2.2.2 bt413.1 bt413.2.1 bt413.2.2.1 bt413.2.2.2.1 bt413.2.2.2.2.1 bt413.2.2.2.2.2.1 bt413.2.2.2.2.2.2.1 bt413.2.2.2.2.2.2.2.1 bt413.2.2.2.2.2.2.2.2.1 bt413.2.2.2.2.2.2.2.2.2.1 bt413.2.2.2.2.2.2.2.2.2.2).bind fun t440 => (if t440 = true then (some true) else (none)))) else (none))))))))))))))
theorem laws_FnExactSameNet.mono : ∀ a0 a1 a2 a3 a4 a5 a6 a7 a8 a9 a10 a11 a12 a13 a14 a15 a16 a17 a18 a19 a20 a21 k, LeO (laws_FnExactSameNet.f k a0 a1 a2 a3 a4 a5 a6 a7 a8 a9 a10 a11 a12 a13 a14 a15 a16 a17 a18 a19 a20 a21) (laws_FnExactSameNet.f (k + 1) a0 a1 a2 a3 a4 a5 a6 a7 a8 a9 a10 a11 a12 a13 a14 a15 a16 a17 a18 a19 a20 a21) := by
 intro a0 a1 a2 a3 a4 a5 a6 a7 a8 a9 a10 a11 a12 a13 a14 a15 a16 a17 a18 a19 a20 a21 k
 unfold laws_FnExactSameNet.f
 repeat' first
   | (with_reducible exact impl_SameNet.mono _ _ _ _ _ _ _ _ _ _ _ _ _ _ _ _ _ _ _ _ _ _ _)
   | (with_reducible exact laws_eqNet.mono _ _ _ _ _ _ _ _ _ _ _ _ _ _ _ _ _ _ _ _ _ _ _)
   | (with_reducible exact laws_szNet.mono _ _ _ _ _ _ _ _ _ _ _ _ _)
   | (with_reducible exact laws_toNet.mono _ _ _ _ _ _ _ _ _ _ _ _)
   | (with_reducible exact spec_SameNet.mono _ _ _ _ _ _ _ _ _ _ _ _ _ _ _ _ _ _ _ _ _ _ _)
   | (with_reducible exact LeO.refl _)
   | (with_reducible exact LeO.none _)
   | (with_reducible refine LeO.ite ?_ ?_)
   | (with_reducible refine LeO.bind ?_ (fun _ => ?_))
   | exact impl_SameNet.mono _ _ _ _ _ _ _ _ _ _ _ _ _ _ _ _ _ _ _ _ _ _ _
   | exact laws_eqNet.mono _ _ _ _ _ _ _ _ _ _ _ _ _ _ _ _ _ _ _ _ _ _ _
   | exact laws_szNet.mono _ _ _ _ _ _ _ _ _ _ _ _ _
   | exact laws_toNet.mono _ _ _ _ _ _ _ _ _ _ _ _
   | exact spec_SameNet.mono _ _ _ _ _ _ _ _ _ _ _ _ _ _ _ _ _ _ _ _ _ _ _
   | exact LeO.none _
   | refine LeO.ite ?_ ?_
   | refine LeO.bind ?_ (fun _ => ?_)
theorem laws_FnExactSameNet.e0 {P : Prop} (h : P := by
 go_enter Try.func10, Try.ntmps10
 go_wp2_with (first | ((with_reducible refine gate_dst (N := 2) rfl ?_); refine box_event ?hg (N := 2) ?hd (cs := #[.int .i64 a0_0, .int .i64 a0_1, .slice A0_2 l0_2.length c0_2, .slice A0_3 l0_3.length c0_3, .slice A0_4 l0_4.length c0_4, .slice A0_5 l0_5.length c0_5, .slice A0_6 l0_6.length c0_6, .slice A0_7 l0_7.length c0_7, .slice A0_8 l0_8.length c0_8, .slice A0_9 l0_9.length c0_9, .int .i64 a0_10]) (t := 78) ?hr ?_; (case hd => rfl); (case hg => rfl); (case hr => first | (go_simp; done) | (go_simp; rfl)); intro gb269 hg w_0 hbox hb; have BK269 := Aside0.mk (hbox); have GW269 := Aside0.mk ((by rw [hg]; exact (bz_ HB.out) : w.heap.size ≤ gb269)); have GE269 := Aside0.mk ((by rw [hg]; exact (bz_ HB.out) : w.heap.size ≤ gb269)); replace HB := Aside0.mk (bs_ HB.out hb); clear hb hbox hg) | ((with_reducible refine gate_dst (N := 3) rfl ?_); refine box_event ?hg (N := 3) ?hd (cs := #[.int .i64 a1_0, .int .i64 a1_1, .slice A1_2 l1_2.length c1_2, .slice A1_3 l1_3.length c1_3, .slice A1_4 l1_4.length c1_4, .slice A1_5 l1_5.length c1_5, .slice A1_6 l1_6.length c1_6, .slice A1_7 l1_7.length c1_7, .slice A1_8 l1_8.length c1_8, .slice A1_9 l1_9.length c1_9, .int .i64 a1_10]) (t := 78) ?hr ?_; (case hd => rfl); (case hg => rfl); (case hr => first | (go_simp; done) | (go_simp; rfl)); intro gb270 hg w_0 hbox hb; have BK270 := Aside0.mk (hbox); have GW270 := Aside0.mk ((by rw [hg]; exact (bz_ HB.out) : w.heap.size ≤ gb270)); have GE270 := Aside0.mk ((by rw [hg]; exact (bz_ HB.out) : w.heap.size ≤ gb270)); replace HB := Aside0.mk (bs_ HB.out hb); have NB269_270 := Aside0.mk ((by rw [hg]; exact Nat.ne_of_lt (bl_ BK269.out) : gb269 ≠ gb270)); have NB270_269 := Aside0.mk ((by rw [hg]; exact Nat.ne_of_gt (bl_ BK269.out) : gb270 ≠ gb269)); replace BK269 := Aside0.mk (bk_ BK269.out hb); clear hb hbox hg; have hnb_ := NB269_270.out; have hnc_ := NB270_269.out; obtain ⟨hcz_0, hcz_1, hcz_2, hcz_3, hcz_4, hcz_5, hcz_6, hcz_7, hcz_8, hcz_9, hcz_10, hfz_0, hfz_1, hfz_2, hfz_3, hfz_4, hfz_5, hfz_6, hfz_7, hfz_8, hfz_9, hfz_10⟩ := cz11_ BK269.out) | ((with_reducible refine gate_callee (f := 48) rfl ?_); refine gm_ (some 12) Try.func48 #[.agg #[.int .i64 a0_0, .int .i64 a0_1, .slice A0_2 l0_2.length c0_2, .slice A0_3 l0_3.length c0_3, .slice A0_4 l0_4.length c0_4, .slice A0_5 l0_5.length c0_5, .slice A0_6 l0_6.length c0_6, .slice A0_7 l0_7.length c0_7, .slice A0_8 l0_8.length c0_8, .slice A0_9 l0_9.length c0_9, .int .i64 a0_10], .int .i64 1048576] rfl ?_; (with_reducible refine (laws_szNet.calls k a0_0 a0_1 _ _ l0_2 _ _ l0_3 _ _ l0_4 _ _ l0_5 _ _ l0_6 _ _ l0_7 _ _ l0_8 _ _ l0_9 a0_10 1048576 t271 _ ?side1 HC0_2.out ?side3 HC0_3.out ?side5 HC0_4.out ?side7 HC0_5.out ?side9 HC0_6.out ?side11 HC0_7.out ?side13 HC0_8.out ?side15 HC0_9.out A3.out).mono ?_); (case side1 => exact cb_ HR0_2.out HB.out); (case side3 => exact cb_ HR0_3.out HB.out); (case side5 => exact cb_ HR0_4.out HB.out); (case side7 => exact cb_ HR0_5.out HB.out); (case side9 => exact cb_ HR0_6.out HB.out); (case side11 => exact cb_ HR0_7.out HB.out); (case side13 => exact cb_ HR0_8.out HB.out); (case side15 => exact cb_ HR0_9.out HB.out); rintro e w_0 ⟨rfl, hb⟩; refine ⟨_, rfl, ?_⟩; replace BK269 := Aside0.mk (bk_ BK269.out hb); replace BK270 := Aside0.mk (bk_ BK270.out hb); replace HB := Aside0.mk (bs_ HB.out hb); (try clear hb); obtain ⟨hcz_0, hcz_1, hcz_2, hcz_3, hcz_4, hcz_5, hcz_6, hcz_7, hcz_8, hcz_9, hcz_10, hfz_0, hfz_1, hfz_2, hfz_3, hfz_4, hfz_5, hfz_6, hfz_7, hfz_8, hfz_9, hfz_10⟩ := cz11_ BK270.out) | ((with_reducible refine gate_callee (f := 48) rfl ?_); refine gm_ (some 17) Try.func48 #[.agg #[.int .i64 a1_0, .int .i64 a1_1, .slice A1_2 l1_2.length c1_2, .slice A1_3 l1_3.length c1_3, .slice A1_4 l1_4.length c1_4, .slice A1_5 l1_5.length c1_5, .slice A1_6 l1_6.length c1_6, .slice A1_7 l1_7.length c1_7, .slice A1_8 l1_8.length c1_8, .slice A1_9 l1_9.length c1_9, .int .i64 a1_10], .int .i64 t271] rfl ?_; (with_reducible refine (laws_szNet.calls k a1_0 a1_1 _ _ l1_2 _ _ l1_3 _ _ l1_4 _ _ l1_5 _ _ l1_6 _ _ l1_7 _ _ l1_8 _ _ l1_9 a1_10 t271 t272 _ ?side1 HC1_2.out ?side3 HC1_3.out ?side5 HC1_4.out ?side7 HC1_5.out ?side9 HC1_6.out ?side11 HC1_7.out ?side13 HC1_8.out ?side15 HC1_9.out A10.out).mono ?_); (case side1 => exact cb_ HR1_2.out HB.out); (case side3 => exact cb_ HR1_3.out HB.out); (case side5 => exact cb_ HR1_4.out HB.out); (case side7 => exact cb_ HR1_5.out HB.out); (case side9 => exact cb_ HR1_6.out HB.out); (case side11 => exact cb_ HR1_7.out HB.out); (case side13 => exact cb_ HR1_8.out HB.out); (case side15 => exact cb_ HR1_9.out HB.out); rintro e w_0 ⟨rfl, hb⟩; refine ⟨_, rfl, ?_⟩; replace BK269 := Aside0.mk (bk_ BK269.out hb); replace BK270 := Aside0.mk (bk_ BK270.out hb); replace HB := Aside0.mk (bs_ HB.out hb); (try clear hb)))
 go_ret
 exact ⟨fin_, bb_ HB.out⟩) : P := h
set_option maxHeartbeats 8000000 in
set_option maxRecDepth 100000 in
theorem laws_FnExactSameNet.calls (k : Nat) (a0_0 : Int) (a0_1 : Int) (A0_2 : Option Addr) (c0_2 : Nat) (l0_2 : List Int) (A0_3 : Option Addr) (c0_3 : Nat) (l0_3 : List Int) (A0_4 : Option Addr) (c0_4 : Nat) (l0_4 : List Int) (A0_5 : Option Addr) (c0_5 : Nat) (l0_5 : List (List (S183))) (A0_6 : Option Addr) (c0_6 : Nat) (l0_6 : List Int) (A0_7 : Option Addr) (c0_7 : Nat) (l0_7 : List Int) (A0_8 : Option Addr) (c0_8 : Nat) (l0_8 : List (List (S183))) (A0_9 : Option Addr) (c0_9 : Nat) (l0_9 : List (List (S183))) (a0_10 : Int) (a1_0 : Int) (a1_1 : Int) (A1_2 : Option Addr) (c1_2 : Nat) (l1_2 : List Int) (A1_3 : Option Addr) (c1_3 : Nat) (l1_3 : List Int) (A1_4 : Option Addr) (c1_4 : Nat) (l1_4 : List Int) (A1_5 : Option Addr) (c1_5 : Nat) (l1_5 : List (List (S183))) (A1_6 : Option Addr) (c1_6 : Nat) (l1_6 : List Int) (A1_7 : Option Addr) (c1_7 : Nat) (l1_7 : List Int) (A1_8 : Option Addr) (c1_8 : Nat) (l1_8 : List (List (S183))) (A1_9 : Option Addr) (c1_9 : Nat) (l1_9 : List (List (S183))) (a1_10 : Int) (r : Bool) (w : World) (hr0_2 : Kd.C (Kd.int .i64) w A0_2 l0_2.length l0_2) (hc0_2 : l0_2.length ≤ c0_2) (hr0_3 : Kd.C (Kd.int .i64) w A0_3 l0_3.length l0_3) (hc0_3 : l0_3.length ≤ c0_3) (hr0_4 : Kd.C (Kd.int .i64) w A0_4 l0_4.length l0_4) (hc0_4 : l0_4.length ≤ c0_4) (hr0_5 : Kd.C (Kd.slice 183 k183) w A0_5 l0_5.length l0_5) (hc0_5 : l0_5.length ≤ c0_5) (hr0_6 : Kd.C (Kd.int .i64) w A0_6 l0_6.length l0_6) (hc0_6 : l0_6.length ≤ c0_6) (hr0_7 : Kd.C (Kd.int .i64) w A0_7 l0_7.length l0_7) (hc0_7 : l0_7.length ≤ c0_7) (hr0_8 : Kd.C (Kd.slice 183 k183) w A0_8 l0_8.length l0_8) (hc0_8 : l0_8.length ≤ c0_8) (hr0_9 : Kd.C (Kd.slice 183 k183) w A0_9 l0_9.length l0_9) (hc0_9 : l0_9.length ≤ c0_9) (hr1_2 : Kd.C (Kd.int .i64) w A1_2 l1_2.length l1_2) (hc1_2 : l1_2.length ≤ c1_2) (hr1_3 : Kd.C (Kd.int .i64) w A1_3 l1_3.length l1_3) (hc1_3 : l1_3.length ≤ c1_3) (hr1_4 : Kd.C (Kd.int .i64) w A1_4 l1_4.length l1_4) (hc1_4 : l1_4.length ≤ c1_4) (hr1_5 : Kd.C (Kd.slice 183 k183) w A1_5 l1_5.length l1_5) (hc1_5 : l1_5.length ≤ c1_5) (hr1_6 : Kd.C (Kd.int .i64) w A1_6 l1_6.length l1_6) (hc1_6 : l1_6.length ≤ c1_6) (hr1_7 : Kd.C (Kd.int .i64) w A1_7 l1_7.length l1_7) (hc1_7 : l1_7.length ≤ c1_7) (hr1_8 : Kd.C (Kd.slice 183 k183) w A1_8 l1_8.length l1_8) (hc1_8 : l1_8.length ≤ c1_8) (hr1_9 : Kd.C (Kd.slice 183 k183) w A1_9 l1_9.length l1_9) (hc1_9 : l1_9.length ≤ c1_9) (h : laws_FnExactSameNet.f k a0_0 a0_1 l0_2 l0_3 l0_4 l0_5 l0_6 l0_7 l0_8 l0_9 a0_10 a1_0 a1_1 l1_2 l1_3 l1_4 l1_5 l1_6 l1_7 l1_8 l1_9 a1_10 = some r) :
  Calls Try.prog 10 #[.agg #[.int .i64 a0_0, .int .i64 a0_1, .slice A0_2 l0_2.length c0_2, .slice A0_3 l0_3.length c0_3, .slice A0_4 l0_4.length c0_4, .slice A0_5 l0_5.length c0_5, .slice A0_6 l0_6.length c0_6, .slice A0_7 l0_7.length c0_7, .slice A0_8 l0_8.length c0_8, .slice A0_9 l0_9.length c0_9, .int .i64 a0_10], .agg #[.int .i64 a1_0, .int .i64 a1_1, .slice A1_2 l1_2.length c1_2, .slice A1_3 l1_3.length c1_3, .slice A1_4 l1_4.length c1_4, .slice A1_5 l1_5.length c1_5, .slice A1_6 l1_6.length c1_6, .slice A1_7 l1_7.length c1_7, .slice A1_8 l1_8.length c1_8, .slice A1_9 l1_9.length c1_9, .int .i64 a1_10]] w fun e w' => e = .returned (.bool r) ∧ Below w.heap.size w w' := by
 have hu78 := Try.underlying78
 have hu55 := Try.underlying55
 have HR0_2 := Aside0.mk hr0_2
 have HC0_2 := Aside0.mk hc0_2
 clear hr0_2 hc0_2
 have HR0_3 := Aside0.mk hr0_3
 have HC0_3 := Aside0.mk hc0_3
 clear hr0_3 hc0_3
 have HR0_4 := Aside0.mk hr0_4
 have HC0_4 := Aside0.mk hc0_4
 clear hr0_4 hc0_4
 have HR0_5 := Aside0.mk hr0_5
 have HC0_5 := Aside0.mk hc0_5
 clear hr0_5 hc0_5
 have HR0_6 := Aside0.mk hr0_6
 have HC0_6 := Aside0.mk hc0_6
 clear hr0_6 hc0_6
 have HR0_7 := Aside0.mk hr0_7
 have HC0_7 := Aside0.mk hc0_7
 clear hr0_7 hc0_7
 have HR0_8 := Aside0.mk hr0_8
 have HC0_8 := Aside0.mk hc0_8
 clear hr0_8 hc0_8
 have HR0_9 := Aside0.mk hr0_9
 have HC0_9 := Aside0.mk hc0_9
 clear hr0_9 hc0_9
 have HR1_2 := Aside0.mk hr1_2
 have HC1_2 := Aside0.mk hc1_2
 clear hr1_2 hc1_2
 have HR1_3 := Aside0.mk hr1_3
 have HC1_3 := Aside0.mk hc1_3
 clear hr1_3 hc1_3
 have HR1_4 := Aside0.mk hr1_4
 have HC1_4 := Aside0.mk hc1_4
 clear hr1_4 hc1_4
 have HR1_5 := Aside0.mk hr1_5
 have HC1_5 := Aside0.mk hc1_5
 clear hr1_5 hc1_5
 have HR1_6 := Aside0.mk hr1_6
 have HC1_6 := Aside0.mk hc1_6
 clear hr1_6 hc1_6
 have HR1_7 := Aside0.mk hr1_7
 have HC1_7 := Aside0.mk hc1_7
 clear hr1_7 hc1_7
 have HR1_8 := Aside0.mk hr1_8
 have HC1_8 := Aside0.mk hc1_8
 clear hr1_8 hc1_8
 have HR1_9 := Aside0.mk hr1_9
 have HC1_9 := Aside0.mk hc1_9
 clear hr1_9 hc1_9
 have HB := Aside0.mk (Below.refl w.heap.size w)
 have H : ((laws_szNet.f k a0_0 a0_1 l0_2 l0_3 l0_4 l0_5 l0_6 l0_7 l0_8 l0_9 a0_10 1048576).bind fun t271 => (if t271 < 0 then (some true) else ((laws_szNet.f k a1_0 a1_1 l1_2 l1_3 l1_4 l1_5 l1_6 l1_7 l1_8 l1_9 a1_10 t271).bind fun t272 => (if t272 < 0 then (some true) else ((laws_toNet.f k a0_0 a0_1 l0_2 l0_3 l0_4 l0_5 l0_6 l0_7 l0_8 l0_9 a0_10).bind fun bt273 => ((laws_toNet.f k a1_0 a1_1 l1_2 l1_3 l1_4 l1_5 l1_6 l1_7 l1_8 l1_9 a1_10).bind fun bt300 => ((spec_SameNet.f k bt273.1 bt273.2.1 bt273.2.2.1 bt273.2.2.2.1 bt273.2.2.2.2.1 bt273.2.2.2.2.2.1 bt273.2.2.2.2.2.2.1 bt273.2.2.2.2.2.2.2.1 bt273.2.2.2.2.2.2.2.2.1 bt273.2.2.2.2.2.2.2.2.2.1 bt273.2.2.2.2.2.2.2.2.2.2 bt300.1 bt300.2.1 bt300.2.2.1 bt300.2.2.2.1 bt300.2.2.2.2.1 bt300.2.2.2.2.2.1 bt300.2.2.2.2.2.2.1 bt300.2.2.2.2.2.2.2.1 bt300.2.2.2.2.2.2.2.2.1 bt300.2.2.2.2.2.2.2.2.2.1 bt300.2.2.2.2.2.2.2.2.2.2).bind fun t327 => ((laws_toNet.f k a0_0 a0_1 l0_2 l0_3 l0_4 l0_5 l0_6 l0_7 l0_8 l0_9 a0_10).bind fun bt328 => ((laws_toNet.f k a1_0 a1_1 l1_2 l1_3 l1_4 l1_5 l1_6 l1_7 l1_8 l1_9 a1_10).bind fun bt356 => ((impl_SameNet.f k bt328.1 bt328.2.1 bt328.2.2.1 bt328.2.2.2.1 bt328.2.2.2.2.1 bt328.2.2.2.2.2.1 bt328.2.2.2.2.2.2.1 bt328.2.2.2.2.2.2.2.1 bt328.2.2.2.2.2.2.2.2.1 bt328.2.2.2.2.2.2.2.2.2.1 bt328.2.2.2.2.2.2.2.2.2.2 bt356.1 bt356.2.1 bt356.2.2.1 bt356.2.2.2.1 bt356.2.2.2.2.1 bt356.2.2.2.2.2.1 bt356.2.2.2.2.2.2.1 bt356.2.2.2.2.2.2.2.1 bt356.2.2.2.2.2.2.2.2.1 bt356.2.2.2.2.2.2.2.2.2.1 bt356.2.2.2.2.2.2.2.2.2.2).bind fun t384 => (if (t384 != t327) = true then (none) else ((laws_toNet.f k a0_0 a0_1 l0_2 l0_3 l0_4 l0_5 l0_6 l0_7 l0_8 l0_9 a0_10).bind fun bt385 => ((laws_eqNet.f k bt328.1 bt328.2.1 bt328.2.2.1 bt328.2.2.2.1 bt328.2.2.2.2.1 bt328.2.2.2.2.2.1 bt328.2.2.2.2.2.2.1 bt328.2.2.2.2.2.2.2.1 bt328.2.2.2.2.2.2.2.2.1 bt328.2.2.2.2.2.2.2.2.2.1 bt328.2.2.2.2.2.2.2.2.2.2 bt385.1 bt385.2.1 bt385.2.2.1 bt385.2.2.2.1 bt385.2.2.2.2.1 bt385.2.2.2.2.2.1 bt385.2.2.2.2.2.2.1 bt385.2.2.2.2.2.2.2.1 bt385.2.2.2.2.2.2.2.2.1 bt385.2.2.2.2.2.2.2.2.2.1 bt385.2.2.2.2.2.2.2.2.2.2).bind fun t412 => (if t412 = true then ((laws_toNet.f k a1_0 a1_1 l1_2 l1_3 l1_4 l1_5 l1_6 l1_7 l1_8 l1_9 a1_10).bind fun bt413 => ((laws_eqNet.f k bt356.1 bt356.2.1 bt356.2.2.1 bt356.2.2.2.1 bt356.2.2.2.2.1 bt356.2.2.2.2.2.1 bt356.2.2.2.2.2.2.1 bt356.2.2.2.2.2.2.2.1 bt356.2.2.2.2.2.2.2.2.1 bt356.2.2.2.2.2.2.2.2.2.1 bt356.2.2.2.2.2.2.2.2.2.2 bt413.1 bt413.2.1 bt413.2.2.1 bt413.2.2.2.1 bt413.2.2.2.2.1 bt413.2.2.2.2.2.1 bt413.2.2.2.2.2.2.1 bt413.2.2.2.2.2.2.2.1 bt413.2.2.2.2.2.2.2.2.1 bt413.2.2.2.2.2.2.2.2.2.1 bt413.2.2.2.2.2.2.2.2.2.2).bind fun t440 => (if t440 = true then (some true) else (none)))) else (none))))))))))))))) = some r := h
 clear h
 replace H := Option.bind_eq_some_iff.mp H
 obtain ⟨t271, A30, H⟩ := H
 try dsimp only at H
 have A3 := Aside0.mk A30
 clear A30
 by_cases c4 : t271 < 0
 ·rw [if_pos c4] at H
  have c4b0 : decide (t271 < 0) = true := decide_eq_true c4
  clear c4
  obtain rfl := Option.some.inj H
  exact laws_FnExactSameNet.e0
 ·rw [if_neg c4] at H
  have c4b0 : decide (t271 < 0) = false := decide_eq_false c4
  clear c4
  replace H := Option.bind_eq_some_iff.mp H
  obtain ⟨t272, A100, H⟩ := H
  try dsimp only at H
  have A10 := Aside0.mk A100
  clear A100
  by_cases c11 : t272 < 0
  ·rw [if_pos c11] at H
   have c11b0 : decide (t272 < 0) = true := decide_eq_true c11
   clear c11
   obtain rfl := Option.some.inj H
   exact laws_FnExactSameNet.e0
  ·rw [if_neg c11] at H
   have c11b0 : decide (t272 < 0) = false := decide_eq_false c11
   clear c11
   replace H := Option.bind_eq_some_iff.mp H
   obtain ⟨⟨t273, t274, t275, t278, t281, t284, t287, t290, t293, t296, t299⟩, A190, H⟩ := H
   try dsimp only at H
   have A19 := Aside0.mk A190
   clear A190
   replace H := Option.bind_eq_some_iff.mp H
   obtain ⟨⟨t300, t301, t302, t305, t308, t311, t314, t317, t320, t323, t326⟩, A200, H⟩ := H
   try dsimp only at H
   have A20 := Aside0.mk A200
   clear A200
   replace H := Option.bind_eq_some_iff.mp H
   obtain ⟨t327, A210, H⟩ := H
   try dsimp only at H
   have A21 := Aside0.mk A210
   clear A210
   replace H := Option.bind_eq_some_iff.mp H
   obtain ⟨⟨t328, t329, t330, t333, t336, t339, t342, t345, t348, t351, t354⟩, A220, H⟩ := H
   try dsimp only at H
   have A22 := Aside0.mk A220
   clear A220
   replace H := Option.bind_eq_some_iff.mp H
   obtain ⟨⟨t356, t357, t358, t361, t364, t367, t370, t373, t376, t379, t382⟩, A230, H⟩ := H
   try dsimp only at H
   have A23 := Aside0.mk A230
   clear A230
   replace H := Option.bind_eq_some_iff.mp H
   obtain ⟨t384, A240, H⟩ := H
   try dsimp only at H
   have A24 := Aside0.mk A240
   clear A240
   by_cases c25 : (t384 != t327) = true
   ·rw [if_pos c25] at H
    exact absurd H (by simp)
   ·rw [if_neg c25] at H
    have c25b0 : (t384 != t327) = false := by simpa using c25
    (try (have c25b1 : decide (t384 = t327) = true := by simpa using c25))
    (try (have c25b2 : (t384 == t327) = true := by simpa using c25))
    clear c25
    replace H := Option.bind_eq_some_iff.mp H
    obtain ⟨⟨t385, t386, t387, t390, t393, t396, t399, t402, t405, t408, t411⟩, A260, H⟩ := H
    try dsimp only at H
    have A26 := Aside0.mk A260
    clear A260
    replace H := Option.bind_eq_some_iff.mp H
    obtain ⟨t412, A270, H⟩ := H
    try dsimp only at H
    have A27 := Aside0.mk A270
    clear A270
    by_cases c28 : t412 = true
    ·subst c28
     rw [if_pos rfl] at H
     replace H := Option.bind_eq_some_iff.mp H
     obtain ⟨⟨t413, t414, t415, t418, t421, t424, t427, t430, t433, t436, t439⟩, A290, H⟩ := H
     try dsimp only at H
     have A29 := Aside0.mk A290
     clear A290
     replace H := Option.bind_eq_some_iff.mp H
     obtain ⟨t440, A300, H⟩ := H
     try dsimp only at H
     have A30 := Aside0.mk A300
     clear A300
     by_cases c31 : t440 = true
     ·subst c31
      rw [if_pos rfl] at H
      obtain rfl := Option.some.inj H
      go_enter Try.func10, Try.ntmps10
      try go_wp2_with (first | ((with_reducible refine gate_dst (N := 2) rfl ?_); refine box_event ?hg (N := 2) ?hd (cs := #[.int .i64 a0_0, .int .i64 a0_1, .slice A0_2 l0_2.length c0_2, .slice A0_3 l0_3.length c0_3, .slice A0_4 l0_4.length c0_4, .slice A0_5 l0_5.length c0_5, .slice A0_6 l0_6.length c0_6, .slice A0_7 l0_7.length c0_7, .slice A0_8 l0_8.length c0_8, .slice A0_9 l0_9.length c0_9, .int .i64 a0_10]) (t := 78) ?hr ?_; (case hd => rfl); (case hg => rfl); (case hr => first | (go_simp; done) | (go_simp; rfl)); intro gb269 hg w32 hbox hb; have BK269 := Aside0.mk (hbox); have GW269 := Aside0.mk ((by rw [hg]; exact (bz_ HB.out) : w.heap.size ≤ gb269)); have GE269 := Aside0.mk ((by rw [hg]; exact (bz_ HB.out) : w.heap.size ≤ gb269)); replace HB := Aside0.mk (bs_ HB.out hb); clear hb hbox hg) | ((with_reducible refine gate_dst (N := 3) rfl ?_); refine box_event ?hg (N := 3) ?hd (cs := #[.int .i64 a1_0, .int .i64 a1_1, .slice A1_2 l1_2.length c1_2, .slice A1_3 l1_3.length c1_3, .slice A1_4 l1_4.length c1_4, .slice A1_5 l1_5.length c1_5, .slice A1_6 l1_6.length c1_6, .slice A1_7 l1_7.length c1_7, .slice A1_8 l1_8.length c1_8, .slice A1_9 l1_9.length c1_9, .int .i64 a1_10]) (t := 78) ?hr ?_; (case hd => rfl); (case hg => rfl); (case hr => first | (go_simp; done) | (go_simp; rfl)); intro gb270 hg w33 hbox hb; have BK270 := Aside0.mk (hbox); have GW270 := Aside0.mk ((by rw [hg]; exact (bz_ HB.out) : w.heap.size ≤ gb270)); have GE270 := Aside0.mk ((by rw [hg]; exact (bz_ HB.out) : w.heap.size ≤ gb270)); replace HB := Aside0.mk (bs_ HB.out hb); have NB269_270 := Aside0.mk ((by rw [hg]; exact Nat.ne_of_lt (bl_ BK269.out) : gb269 ≠ gb270)); have NB270_269 := Aside0.mk ((by rw [hg]; exact Nat.ne_of_gt (bl_ BK269.out) : gb270 ≠ gb269)); replace BK269 := Aside0.mk (bk_ BK269.out hb); clear hb hbox hg; have hnb34 := NB269_270.out; have hnc34 := NB270_269.out; obtain ⟨hcz35_0, hcz35_1, hcz35_2, hcz35_3, hcz35_4, hcz35_5, hcz35_6, hcz35_7, hcz35_8, hcz35_9, hcz35_10, hfz35_0, hfz35_1, hfz35_2, hfz35_3, hfz35_4, hfz35_5, hfz35_6, hfz35_7, hfz35_8, hfz35_9, hfz35_10⟩ := cz11_ BK269.out) | ((with_reducible refine gate_callee (f := 48) rfl ?_); refine gm_ (some 12) Try.func48 #[.agg #[.int .i64 a0_0, .int .i64 a0_1, .slice A0_2 l0_2.length c0_2, .slice A0_3 l0_3.length c0_3, .slice A0_4 l0_4.length c0_4, .slice A0_5 l0_5.length c0_5, .slice A0_6 l0_6.length c0_6, .slice A0_7 l0_7.length c0_7, .slice A0_8 l0_8.length c0_8, .slice A0_9 l0_9.length c0_9, .int .i64 a0_10], .int .i64 1048576] rfl ?_; (with_reducible refine (laws_szNet.calls k a0_0 a0_1 _ _ l0_2 _ _ l0_3 _ _ l0_4 _ _ l0_5 _ _ l0_6 _ _ l0_7 _ _ l0_8 _ _ l0_9 a0_10 1048576 t271 _ ?side1 HC0_2.out ?side3 HC0_3.out ?side5 HC0_4.out ?side7 HC0_5.out ?side9 HC0_6.out ?side11 HC0_7.out ?side13 HC0_8.out ?side15 HC0_9.out A3.out).mono ?_); (case side1 => exact cb_ HR0_2.out HB.out); (case side3 => exact cb_ HR0_3.out HB.out); (case side5 => exact cb_ HR0_4.out HB.out); (case side7 => exact cb_ HR0_5.out HB.out); (case side9 => exact cb_ HR0_6.out HB.out); (case side11 => exact cb_ HR0_7.out HB.out); (case side13 => exact cb_ HR0_8.out HB.out); (case side15 => exact cb_ HR0_9.out HB.out); rintro e w36 ⟨rfl, hb⟩; refine ⟨_, rfl, ?_⟩; replace BK269 := Aside0.mk (bk_ BK269.out hb); replace BK270 := Aside0.mk (bk_ BK270.out hb); replace HB := Aside0.mk (bs_ HB.out hb); (try clear hb); obtain ⟨hcz37_0, hcz37_1, hcz37_2, hcz37_3, hcz37_4, hcz37_5, hcz37_6, hcz37_7, hcz37_8, hcz37_9, hcz37_10, hfz37_0, hfz37_1, hfz37_2, hfz37_3, hfz37_4, hfz37_5, hfz37_6, hfz37_7, hfz37_8, hfz37_9, hfz37_10⟩ := cz11_ BK270.out) | ((with_reducible refine gate_callee (f := 48) rfl ?_); refine gm_ (some 17) Try.func48 #[.agg #[.int .i64 a1_0, .int .i64 a1_1, .slice A1_2 l1_2.length c1_2, .slice A1_3 l1_3.length c1_3, .slice A1_4 l1_4.length c1_4, .slice A1_5 l1_5.length c1_5, .slice A1_6 l1_6.length c1_6, .slice A1_7 l1_7.length c1_7, .slice A1_8 l1_8.length c1_8, .slice A1_9 l1_9.length c1_9, .int .i64 a1_10], .int .i64 t271] rfl ?_; (with_reducible refine (laws_szNet.calls k a1_0 a1_1 _ _ l1_2 _ _ l1_3 _ _ l1_4 _ _ l1_5 _ _ l1_6 _ _ l1_7 _ _ l1_8 _ _ l1_9 a1_10 t271 t272 _ ?side1 HC1_2.out ?side3 HC1_3.out ?side5 HC1_4.out ?side7 HC1_5.out ?side9 HC1_6.out ?side11 HC1_7.out ?side13 HC1_8.out ?side15 HC1_9.out A10.out).mono ?_); (case side1 => exact cb_ HR1_2.out HB.out); (case side3 => exact cb_ HR1_3.out HB.out); (case side5 => exact cb_ HR1_4.out HB.out); (case side7 => exact cb_ HR1_5.out HB.out); (case side9 => exact cb_ HR1_6.out HB.out); (case side11 => exact cb_ HR1_7.out HB.out); (case side13 => exact cb_ HR1_8.out HB.out); (case side15 => exact cb_ HR1_9.out HB.out); rintro e w38 ⟨rfl, hb⟩; refine ⟨_, rfl, ?_⟩; replace BK269 := Aside0.mk (bk_ BK269.out hb); replace BK270 := Aside0.mk (bk_ BK270.out hb); replace HB := Aside0.mk (bs_ HB.out hb); (try clear hb)))
      have n0_ := Aside0.mk (blk_drew BK269.out)
      have n1_ := Aside0.mk (blk_drew BK270.out)
      have n2_ := Aside0.mk (below_drew1 HB.out)
      clear BK269
      clear BK270
      clear HB
      have BK269 := n0_
      have BK270 := n1_
      have HB := n2_
      clear n0_ n1_ n2_
      refine start_ (n := 6) (S := fun w' => w'.cell? ⟨gb269, 0, none⟩ = some (.int .i64 a0_0) ∧ w'.cell? ⟨gb269, 1, none⟩ = some (.int .i64 a0_1) ∧ w'.cell? ⟨gb269, 2, none⟩ = some (.slice A0_2 l0_2.length c0_2) ∧ w'.cell? ⟨gb269, 3, none⟩ = some (.slice A0_3 l0_3.length c0_3) ∧ w'.cell? ⟨gb269, 4, none⟩ = some (.slice A0_4 l0_4.length c0_4) ∧ w'.cell? ⟨gb269, 5, none⟩ = some (.slice A0_5 l0_5.length c0_5) ∧ w'.cell? ⟨gb269, 6, none⟩ = some (.slice A0_6 l0_6.length c0_6) ∧ w'.cell? ⟨gb269, 7, none⟩ = some (.slice A0_7 l0_7.length c0_7) ∧ w'.cell? ⟨gb269, 8, none⟩ = some (.slice A0_8 l0_8.length c0_8) ∧ w'.cell? ⟨gb269, 9, none⟩ = some (.slice A0_9 l0_9.length c0_9) ∧ w'.cell? ⟨gb269, 10, none⟩ = some (.int .i64 a0_10) ∧ w'.cell? ⟨gb270, 0, none⟩ = some (.int .i64 a1_0) ∧ w'.cell? ⟨gb270, 1, none⟩ = some (.int .i64 a1_1) ∧ w'.cell? ⟨gb270, 2, none⟩ = some (.slice A1_2 l1_2.length c1_2) ∧ w'.cell? ⟨gb270, 3, none⟩ = some (.slice A1_3 l1_3.length c1_3) ∧ w'.cell? ⟨gb270, 4, none⟩ = some (.slice A1_4 l1_4.length c1_4) ∧ w'.cell? ⟨gb270, 5, none⟩ = some (.slice A1_5 l1_5.length c1_5) ∧ w'.cell? ⟨gb270, 6, none⟩ = some (.slice A1_6 l1_6.length c1_6) ∧ w'.cell? ⟨gb270, 7, none⟩ = some (.slice A1_7 l1_7.length c1_7) ∧ w'.cell? ⟨gb270, 8, none⟩ = some (.slice A1_8 l1_8.length c1_8) ∧ w'.cell? ⟨gb270, 9, none⟩ = some (.slice A1_9 l1_9.length c1_9) ∧ w'.cell? ⟨gb270, 10, none⟩ = some (.int .i64 a1_10)) (ds := []) #[false, false, false, false, false, false] (by kernel_rfl) rfl rfl ⟨(blk_cell BK269.out 0).trans rfl, (blk_cell BK269.out 1).trans rfl, (blk_cell BK269.out 2).trans rfl, (blk_cell BK269.out 3).trans rfl, (blk_cell BK269.out 4).trans rfl, (blk_cell BK269.out 5).trans rfl, (blk_cell BK269.out 6).trans rfl, (blk_cell BK269.out 7).trans rfl, (blk_cell BK269.out 8).trans rfl, (blk_cell BK269.out 9).trans rfl, (blk_cell BK269.out 10).trans rfl, (blk_cell BK270.out 0).trans rfl, (blk_cell BK270.out 1).trans rfl, (blk_cell BK270.out 2).trans rfl, (blk_cell BK270.out 3).trans rfl, (blk_cell BK270.out 4).trans rfl, (blk_cell BK270.out 5).trans rfl, (blk_cell BK270.out 6).trans rfl, (blk_cell BK270.out 7).trans rfl, (blk_cell BK270.out 8).trans rfl, (blk_cell BK270.out 9).trans rfl, (blk_cell BK270.out 10).trans rfl⟩ (fun hHeld => ?_)
      generalize w38.drew = w39 at BK269 BK270 HB hHeld ⊢
      refine take_ (i := 0) (N := some 20) (v := ?_) (a' := ?_) (bt_ 6 1) rfl rfl (by kernel_rfl) (fun _ _ _ h => h) (Or.inl ⟨by rfl, ?_⟩) hHeld ?_ ?_
      rotate_left
      ·rintro w' ⟨s0, s1, s2, s3, s4, s5, s6, s7, s8, s9, s10, s11, s12, s13, s14, s15, s16, s17, s18, s19, s20, s21⟩
       go_simp
       with_reducible rfl
      rotate_left
      ·simp only [Act.put, List.setIfInBounds_toArray, List.set_cons_zero, List.set_cons_succ, i64_w, i32_w]
       rfl
      refine take_ (i := 2) (N := some 22) (v := ?_) (a' := ?_) (bt_ 6 5) rfl rfl (by kernel_rfl) (fun _ _ _ h => h) (Or.inl ⟨by rfl, ?_⟩) hHeld ?_ ?_
      rotate_left
      ·rintro w' ⟨s0, s1, s2, s3, s4, s5, s6, s7, s8, s9, s10, s11, s12, s13, s14, s15, s16, s17, s18, s19, s20, s21⟩
       go_simp
       with_reducible rfl
      rotate_left
      ·simp only [Act.put, List.setIfInBounds_toArray, List.set_cons_zero, List.set_cons_succ, i64_w, i32_w]
       rfl
      refine one_ (i := 1) (N := some 21) (bt_ 6 7) rfl rfl (by kernel_rfl) (by decide) (fun K hK => ?_)
      refine goes_ Try.func50 (by kernel_rfl) rfl #[.agg #[.int .i64 a0_0, .int .i64 a0_1, .slice A0_2 l0_2.length c0_2, .slice A0_3 l0_3.length c0_3, .slice A0_4 l0_4.length c0_4, .slice A0_5 l0_5.length c0_5, .slice A0_6 l0_6.length c0_6, .slice A0_7 l0_7.length c0_7, .slice A0_8 l0_8.length c0_8, .slice A0_9 l0_9.length c0_9, .int .i64 a0_10]] (by rfl) rfl rfl (by (try simp only [List.map_toArray, List.map_cons, List.map_nil]); first | done | rfl | (simp only [List.length_drop, List.length_take]; rfl)) ?_
      with_reducible refine (laws_toNet.calls k a0_0 a0_1 _ _ l0_2 _ _ l0_3 _ _ l0_4 _ _ l0_5 _ _ l0_6 _ _ l0_7 _ _ l0_8 _ _ l0_9 a0_10 t273 t274 t275 t278 t281 t284 t287 t290 t293 t296 t299 _ ?side1 ?side2 ?side3 ?side4 ?side5 ?side6 ?side7 ?side8 ?side9 ?side10 ?side11 ?side12 ?side13 ?side14 ?side15 ?side16 A19.out).mono ?_
      (case side1 => exact cb_ HR0_2.out HB.out)
      (case side2 => exact HC0_2.out)
      (case side3 => exact cb_ HR0_3.out HB.out)
      (case side4 => exact HC0_3.out)
      (case side5 => exact cb_ HR0_4.out HB.out)
      (case side6 => exact HC0_4.out)
      (case side7 => exact cb_ HR0_5.out HB.out)
      (case side8 => exact HC0_5.out)
      (case side9 => exact cb_ HR0_6.out HB.out)
      (case side10 => exact HC0_6.out)
      (case side11 => exact cb_ HR0_7.out HB.out)
      (case side12 => exact HC0_7.out)
      (case side13 => exact cb_ HR0_8.out HB.out)
      (case side14 => exact HC0_8.out)
      (case side15 => exact cb_ HR0_9.out HB.out)
      (case side16 => exact HC0_9.out)
      rintro e w40 ⟨v276, v279, v282, v285, v288, v291, v294, v297, rfl, ho0, ho1, ho2, ho3, ho4, ho5, ho6, ho7, hb⟩
      refine ⟨_, rfl, ?_⟩
      have n0_ := Aside0.mk (Kd.R_lower ho0 (bz_ HB.out))
      have n1_ := Aside0.mk (Kd.R_lower ho1 (bz_ HB.out))
      have n2_ := Aside0.mk (Kd.R_lower ho2 (bz_ HB.out))
      have n3_ := Aside0.mk (Kd.S_lower ho3 (bz_ HB.out))
      have n4_ := Aside0.mk (Kd.R_lower ho4 (bz_ HB.out))
      have n5_ := Aside0.mk (Kd.R_lower ho5 (bz_ HB.out))
      have n6_ := Aside0.mk (Kd.S_lower ho6 (bz_ HB.out))
      have n7_ := Aside0.mk (Kd.S_lower ho7 (bz_ HB.out))
      have n8_ := Aside0.mk (bk_ BK269.out hb)
      have n9_ := Aside0.mk (bk_ BK270.out hb)
      have n10_ := Aside0.mk (bs_ HB.out hb)
      clear BK269
      clear BK270
      clear HB
      have HO277 := n0_
      have HO280 := n1_
      have HO283 := n2_
      have HO286 := n3_
      have HO289 := n4_
      have HO292 := n5_
      have HO295 := n6_
      have HO298 := n7_
      have BK269 := n8_
      have BK270 := n9_
      have HB := n10_
      clear n0_ n1_ n2_ n3_ n4_ n5_ n6_ n7_ n8_ n9_ n10_
      (try clear hb)
      (try clear hb2)
      (try clear hk)
      (try clear hi)
      (try clear ho0)
      (try clear ho1)
      (try clear ho2)
      (try clear ho3)
      (try clear ho4)
      (try clear ho5)
      (try clear ho6)
      (try clear ho7)
      refine hK.out _ _ ⟨(blk_cell BK269.out 0).trans rfl, (blk_cell BK269.out 1).trans rfl, (blk_cell BK269.out 2).trans rfl, (blk_cell BK269.out 3).trans rfl, (blk_cell BK269.out 4).trans rfl, (blk_cell BK269.out 5).trans rfl, (blk_cell BK269.out 6).trans rfl, (blk_cell BK269.out 7).trans rfl, (blk_cell BK269.out 8).trans rfl, (blk_cell BK269.out 9).trans rfl, (blk_cell BK269.out 10).trans rfl, (blk_cell BK270.out 0).trans rfl, (blk_cell BK270.out 1).trans rfl, (blk_cell BK270.out 2).trans rfl, (blk_cell BK270.out 3).trans rfl, (blk_cell BK270.out 4).trans rfl, (blk_cell BK270.out 5).trans rfl, (blk_cell BK270.out 6).trans rfl, (blk_cell BK270.out 7).trans rfl, (blk_cell BK270.out 8).trans rfl, (blk_cell BK270.out 9).trans rfl, (blk_cell BK270.out 10).trans rfl⟩ (fun hHeld => ?_)
      clear hK K
      refine norm_ (a' := ?_) ?_ ?_
      rotate_left
      ·show Act.put _ (some 21) _ = _
       simp only [Act.put, List.setIfInBounds_toArray, List.set_cons_zero, List.set_cons_succ, i64_w, i32_w]
       rfl
      refine one_ (i := 3) (N := some 23) (bt_ 6 15) rfl rfl (by kernel_rfl) (by decide) (fun K hK => ?_)
      refine goes_ Try.func50 (by kernel_rfl) rfl #[.agg #[.int .i64 a1_0, .int .i64 a1_1, .slice A1_2 l1_2.length c1_2, .slice A1_3 l1_3.length c1_3, .slice A1_4 l1_4.length c1_4, .slice A1_5 l1_5.length c1_5, .slice A1_6 l1_6.length c1_6, .slice A1_7 l1_7.length c1_7, .slice A1_8 l1_8.length c1_8, .slice A1_9 l1_9.length c1_9, .int .i64 a1_10]] (by rfl) rfl rfl (by (try simp only [List.map_toArray, List.map_cons, List.map_nil]); first | done | rfl | (simp only [List.length_drop, List.length_take]; rfl)) ?_
      with_reducible refine (laws_toNet.calls k a1_0 a1_1 _ _ l1_2 _ _ l1_3 _ _ l1_4 _ _ l1_5 _ _ l1_6 _ _ l1_7 _ _ l1_8 _ _ l1_9 a1_10 t300 t301 t302 t305 t308 t311 t314 t317 t320 t323 t326 _ ?side1 ?side2 ?side3 ?side4 ?side5 ?side6 ?side7 ?side8 ?side9 ?side10 ?side11 ?side12 ?side13 ?side14 ?side15 ?side16 A20.out).mono ?_
      (case side1 => exact cb_ HR1_2.out HB.out)
      (case side2 => exact HC1_2.out)
      (case side3 => exact cb_ HR1_3.out HB.out)
      (case side4 => exact HC1_3.out)
      (case side5 => exact cb_ HR1_4.out HB.out)
      (case side6 => exact HC1_4.out)
      (case side7 => exact cb_ HR1_5.out HB.out)
      (case side8 => exact HC1_5.out)
      (case side9 => exact cb_ HR1_6.out HB.out)
      (case side10 => exact HC1_6.out)
      (case side11 => exact cb_ HR1_7.out HB.out)
      (case side12 => exact HC1_7.out)
      (case side13 => exact cb_ HR1_8.out HB.out)
      (case side14 => exact HC1_8.out)
      (case side15 => exact cb_ HR1_9.out HB.out)
      (case side16 => exact HC1_9.out)
      rintro e w41 ⟨v303, v306, v309, v312, v315, v318, v321, v324, rfl, ho0, ho1, ho2, ho3, ho4, ho5, ho6, ho7, hb⟩
      refine ⟨_, rfl, ?_⟩
      have n0_ := Aside0.mk (Kd.R_mono (Kd.R_told (Kd.R_told (Kd.R_told (Kd.R_told (Kd.R_told (Kd.R_old (ra_ HO277.out) hb) (Kd.R_base ho0)) (Kd.R_base ho1)) (Kd.R_base ho2)) (Kd.R_base ho4)) (Kd.R_base ho5)) (fun _ h_ => h_.1))
      have n1_ := Aside0.mk (Kd.R_mono (Kd.R_told (Kd.R_told (Kd.R_told (Kd.R_told (Kd.R_told (Kd.R_old (ra_ HO280.out) hb) (Kd.R_base ho0)) (Kd.R_base ho1)) (Kd.R_base ho2)) (Kd.R_base ho4)) (Kd.R_base ho5)) (fun _ h_ => h_.1))
      have n2_ := Aside0.mk (Kd.R_mono (Kd.R_told (Kd.R_told (Kd.R_told (Kd.R_told (Kd.R_told (Kd.R_old (ra_ HO283.out) hb) (Kd.R_base ho0)) (Kd.R_base ho1)) (Kd.R_base ho2)) (Kd.R_base ho4)) (Kd.R_base ho5)) (fun _ h_ => h_.1))
      have n3_ := Aside0.mk (Kd.S_mono (Kd.S_told (Kd.S_told (Kd.S_told (Kd.S_old (sa_ HO286.out) hb) (Kd.S_base ho3)) (Kd.S_base ho6)) (Kd.S_base ho7)) (fun _ h_ => h_.1))
      have n4_ := Aside0.mk (Kd.R_mono (Kd.R_told (Kd.R_told (Kd.R_told (Kd.R_told (Kd.R_told (Kd.R_old (ra_ HO289.out) hb) (Kd.R_base ho0)) (Kd.R_base ho1)) (Kd.R_base ho2)) (Kd.R_base ho4)) (Kd.R_base ho5)) (fun _ h_ => h_.1))
      have n5_ := Aside0.mk (Kd.R_mono (Kd.R_told (Kd.R_told (Kd.R_told (Kd.R_told (Kd.R_told (Kd.R_old (ra_ HO292.out) hb) (Kd.R_base ho0)) (Kd.R_base ho1)) (Kd.R_base ho2)) (Kd.R_base ho4)) (Kd.R_base ho5)) (fun _ h_ => h_.1))
      have n6_ := Aside0.mk (Kd.S_mono (Kd.S_told (Kd.S_told (Kd.S_told (Kd.S_old (sa_ HO295.out) hb) (Kd.S_base ho3)) (Kd.S_base ho6)) (Kd.S_base ho7)) (fun _ h_ => h_.1))
      have n7_ := Aside0.mk (Kd.S_mono (Kd.S_told (Kd.S_told (Kd.S_told (Kd.S_old (sa_ HO298.out) hb) (Kd.S_base ho3)) (Kd.S_base ho6)) (Kd.S_base ho7)) (fun _ h_ => h_.1))
      have n8_ := Aside0.mk (Kd.R_lower (Kd.R_new' (Kd.R_new' (Kd.R_new' (Kd.R_new' (Kd.R_new' ho0 (rl_ HO277.out)) (rl_ HO280.out)) (rl_ HO283.out)) (rl_ HO289.out)) (rl_ HO292.out)) (bz_ HB.out))
      have n9_ := Aside0.mk (Kd.R_lower (Kd.R_new' (Kd.R_new' (Kd.R_new' (Kd.R_new' (Kd.R_new' ho1 (rl_ HO277.out)) (rl_ HO280.out)) (rl_ HO283.out)) (rl_ HO289.out)) (rl_ HO292.out)) (bz_ HB.out))
      have n10_ := Aside0.mk (Kd.R_lower (Kd.R_new' (Kd.R_new' (Kd.R_new' (Kd.R_new' (Kd.R_new' ho2 (rl_ HO277.out)) (rl_ HO280.out)) (rl_ HO283.out)) (rl_ HO289.out)) (rl_ HO292.out)) (bz_ HB.out))
      have n11_ := Aside0.mk (Kd.S_lower (Kd.S_new' (Kd.S_new' (Kd.S_new' ho3 (sl_ HO286.out)) (sl_ HO295.out)) (sl_ HO298.out)) (bz_ HB.out))
      have n12_ := Aside0.mk (Kd.R_lower (Kd.R_new' (Kd.R_new' (Kd.R_new' (Kd.R_new' (Kd.R_new' ho4 (rl_ HO277.out)) (rl_ HO280.out)) (rl_ HO283.out)) (rl_ HO289.out)) (rl_ HO292.out)) (bz_ HB.out))
      have n13_ := Aside0.mk (Kd.R_lower (Kd.R_new' (Kd.R_new' (Kd.R_new' (Kd.R_new' (Kd.R_new' ho5 (rl_ HO277.out)) (rl_ HO280.out)) (rl_ HO283.out)) (rl_ HO289.out)) (rl_ HO292.out)) (bz_ HB.out))
      have n14_ := Aside0.mk (Kd.S_lower (Kd.S_new' (Kd.S_new' (Kd.S_new' ho6 (sl_ HO286.out)) (sl_ HO295.out)) (sl_ HO298.out)) (bz_ HB.out))
      have n15_ := Aside0.mk (Kd.S_lower (Kd.S_new' (Kd.S_new' (Kd.S_new' ho7 (sl_ HO286.out)) (sl_ HO295.out)) (sl_ HO298.out)) (bz_ HB.out))
      have n16_ := Aside0.mk (bk_ BK269.out hb)
      have n17_ := Aside0.mk (bk_ BK270.out hb)
      have n18_ := Aside0.mk (bs_ HB.out hb)
      clear HO277
      clear HO280
      clear HO283
      clear HO286
      clear HO289
      clear HO292
      clear HO295
      clear HO298
      clear BK269
      clear BK270
      clear HB
      have HO277 := n0_
      have HO280 := n1_
      have HO283 := n2_
      have HO286 := n3_
      have HO289 := n4_
      have HO292 := n5_
      have HO295 := n6_
      have HO298 := n7_
      have HO304 := n8_
      have HO307 := n9_
      have HO310 := n10_
      have HO313 := n11_
      have HO316 := n12_
      have HO319 := n13_
      have HO322 := n14_
      have HO325 := n15_
      have BK269 := n16_
      have BK270 := n17_
      have HB := n18_
      clear n0_ n1_ n2_ n3_ n4_ n5_ n6_ n7_ n8_ n9_ n10_ n11_ n12_ n13_ n14_ n15_ n16_ n17_ n18_
      (try clear hb)
      (try clear hb2)
      (try clear hk)
      (try clear hi)
      (try clear ho0)
      (try clear ho1)
      (try clear ho2)
      (try clear ho3)
      (try clear ho4)
      (try clear ho5)
      (try clear ho6)
      (try clear ho7)
      obtain ⟨Ao42, co42, eo42⟩ := Kd.R_slice HO277.out
      (first | subst eo42 | (injection eo42 with f1_ f2_ f3_; have f4_ := f1_.symm; have f5_ := f3_.symm; clear f1_ f2_ f3_; subst f4_; subst f5_))
      obtain ⟨Ao43, co43, eo43⟩ := Kd.R_slice HO280.out
      (first | subst eo43 | (injection eo43 with f1_ f2_ f3_; have f4_ := f1_.symm; have f5_ := f3_.symm; clear f1_ f2_ f3_; subst f4_; subst f5_))
      obtain ⟨Ao44, co44, eo44⟩ := Kd.R_slice HO283.out
      (first | subst eo44 | (injection eo44 with f1_ f2_ f3_; have f4_ := f1_.symm; have f5_ := f3_.symm; clear f1_ f2_ f3_; subst f4_; subst f5_))
      obtain ⟨Ao45, co45, eo45⟩ := Kd.S_slice HO286.out
      (first | subst eo45 | (injection eo45 with f1_ f2_ f3_; have f4_ := f1_.symm; have f5_ := f3_.symm; clear f1_ f2_ f3_; subst f4_; subst f5_))
      obtain ⟨Ao46, co46, eo46⟩ := Kd.R_slice HO289.out
      (first | subst eo46 | (injection eo46 with f1_ f2_ f3_; have f4_ := f1_.symm; have f5_ := f3_.symm; clear f1_ f2_ f3_; subst f4_; subst f5_))
      obtain ⟨Ao47, co47, eo47⟩ := Kd.R_slice HO292.out
      (first | subst eo47 | (injection eo47 with f1_ f2_ f3_; have f4_ := f1_.symm; have f5_ := f3_.symm; clear f1_ f2_ f3_; subst f4_; subst f5_))
      obtain ⟨Ao48, co48, eo48⟩ := Kd.S_slice HO295.out
      (first | subst eo48 | (injection eo48 with f1_ f2_ f3_; have f4_ := f1_.symm; have f5_ := f3_.symm; clear f1_ f2_ f3_; subst f4_; subst f5_))
      obtain ⟨Ao49, co49, eo49⟩ := Kd.S_slice HO298.out
      (first | subst eo49 | (injection eo49 with f1_ f2_ f3_; have f4_ := f1_.symm; have f5_ := f3_.symm; clear f1_ f2_ f3_; subst f4_; subst f5_))
      obtain ⟨Ao50, co50, eo50⟩ := Kd.R_slice HO304.out
      (first | subst eo50 | (injection eo50 with f1_ f2_ f3_; have f4_ := f1_.symm; have f5_ := f3_.symm; clear f1_ f2_ f3_; subst f4_; subst f5_))
      obtain ⟨Ao51, co51, eo51⟩ := Kd.R_slice HO307.out
      (first | subst eo51 | (injection eo51 with f1_ f2_ f3_; have f4_ := f1_.symm; have f5_ := f3_.symm; clear f1_ f2_ f3_; subst f4_; subst f5_))
      obtain ⟨Ao52, co52, eo52⟩ := Kd.R_slice HO310.out
      (first | subst eo52 | (injection eo52 with f1_ f2_ f3_; have f4_ := f1_.symm; have f5_ := f3_.symm; clear f1_ f2_ f3_; subst f4_; subst f5_))
      obtain ⟨Ao53, co53, eo53⟩ := Kd.S_slice HO313.out
      (first | subst eo53 | (injection eo53 with f1_ f2_ f3_; have f4_ := f1_.symm; have f5_ := f3_.symm; clear f1_ f2_ f3_; subst f4_; subst f5_))
      obtain ⟨Ao54, co54, eo54⟩ := Kd.R_slice HO316.out
      (first | subst eo54 | (injection eo54 with f1_ f2_ f3_; have f4_ := f1_.symm; have f5_ := f3_.symm; clear f1_ f2_ f3_; subst f4_; subst f5_))
      obtain ⟨Ao55, co55, eo55⟩ := Kd.R_slice HO319.out
      (first | subst eo55 | (injection eo55 with f1_ f2_ f3_; have f4_ := f1_.symm; have f5_ := f3_.symm; clear f1_ f2_ f3_; subst f4_; subst f5_))
      obtain ⟨Ao56, co56, eo56⟩ := Kd.S_slice HO322.out
      (first | subst eo56 | (injection eo56 with f1_ f2_ f3_; have f4_ := f1_.symm; have f5_ := f3_.symm; clear f1_ f2_ f3_; subst f4_; subst f5_))
      obtain ⟨Ao57, co57, eo57⟩ := Kd.S_slice HO325.out
      (first | subst eo57 | (injection eo57 with f1_ f2_ f3_; have f4_ := f1_.symm; have f5_ := f3_.symm; clear f1_ f2_ f3_; subst f4_; subst f5_))
      refine hK.out _ _ ⟨(blk_cell BK269.out 0).trans rfl, (blk_cell BK269.out 1).trans rfl, (blk_cell BK269.out 2).trans rfl, (blk_cell BK269.out 3).trans rfl, (blk_cell BK269.out 4).trans rfl, (blk_cell BK269.out 5).trans rfl, (blk_cell BK269.out 6).trans rfl, (blk_cell BK269.out 7).trans rfl, (blk_cell BK269.out 8).trans rfl, (blk_cell BK269.out 9).trans rfl, (blk_cell BK269.out 10).trans rfl, (blk_cell BK270.out 0).trans rfl, (blk_cell BK270.out 1).trans rfl, (blk_cell BK270.out 2).trans rfl, (blk_cell BK270.out 3).trans rfl, (blk_cell BK270.out 4).trans rfl, (blk_cell BK270.out 5).trans rfl, (blk_cell BK270.out 6).trans rfl, (blk_cell BK270.out 7).trans rfl, (blk_cell BK270.out 8).trans rfl, (blk_cell BK270.out 9).trans rfl, (blk_cell BK270.out 10).trans rfl⟩ (fun hHeld => ?_)
      clear hK K
      refine norm_ (a' := ?_) ?_ ?_
      rotate_left
      ·show Act.put _ (some 23) _ = _
       simp only [Act.put, List.setIfInBounds_toArray, List.set_cons_zero, List.set_cons_succ, i64_w, i32_w]
       rfl
      refine one_ (i := 4) (N := some 24) (bt_ 6 31) rfl rfl (by kernel_rfl) (by decide) (fun K hK => ?_)
      refine goes_ Try.func49 (by kernel_rfl) rfl #[.agg #[.int .i64 t273, .int .i64 t274, .slice Ao42 t275.length co42, .slice Ao43 t278.length co43, .slice Ao44 t281.length co44, .slice Ao45 t284.length co45, .slice Ao46 t287.length co46, .slice Ao47 t290.length co47, .slice Ao48 t293.length co48, .slice Ao49 t296.length co49, .int .i64 t299], .agg #[.int .i64 t300, .int .i64 t301, .slice Ao50 t302.length co50, .slice Ao51 t305.length co51, .slice Ao52 t308.length co52, .slice Ao53 t311.length co53, .slice Ao54 t314.length co54, .slice Ao55 t317.length co55, .slice Ao56 t320.length co56, .slice Ao57 t323.length co57, .int .i64 t326]] (by rfl) rfl rfl (by (try simp only [List.map_toArray, List.map_cons, List.map_nil]); first | done | rfl | (simp only [List.length_drop, List.length_take]; rfl)) ?_
      with_reducible refine (spec_SameNet.calls k t273 t274 _ _ t275 _ _ t278 _ _ t281 _ _ t284 _ _ t287 _ _ t290 _ _ t293 _ _ t296 t299 t300 t301 _ _ t302 _ _ t305 _ _ t308 _ _ t311 _ _ t314 _ _ t317 _ _ t320 _ _ t323 t326 t327 _ ?side1 ?side2 ?side3 ?side4 ?side5 ?side6 ?side7 ?side8 ?side9 ?side10 ?side11 ?side12 ?side13 ?side14 ?side15 ?side16 ?side17 ?side18 ?side19 ?side20 ?side21 ?side22 ?side23 ?side24 ?side25 ?side26 ?side27 ?side28 ?side29 ?side30 ?side31 ?side32 A21.out).mono ?_
      (case side1 => repeat (first | exact (Kd.R_reads' HO277.out).2.2 | (with_reducible refine Kd.C_alloc ?_ _) | (with_reducible refine Kd.C_drewN ?_ _) | (with_reducible refine Kd.C_drew ?_)))
      (case side2 => exact (Kd.R_reads' HO277.out).2.1)
      (case side3 => repeat (first | exact (Kd.R_reads' HO280.out).2.2 | (with_reducible refine Kd.C_alloc ?_ _) | (with_reducible refine Kd.C_drewN ?_ _) | (with_reducible refine Kd.C_drew ?_)))
      (case side4 => exact (Kd.R_reads' HO280.out).2.1)
      (case side5 => repeat (first | exact (Kd.R_reads' HO283.out).2.2 | (with_reducible refine Kd.C_alloc ?_ _) | (with_reducible refine Kd.C_drewN ?_ _) | (with_reducible refine Kd.C_drew ?_)))
      (case side6 => exact (Kd.R_reads' HO283.out).2.1)
      (case side7 => repeat (first | exact (Kd.S_reads' HO286.out).2.2 | (with_reducible refine Kd.C_alloc ?_ _) | (with_reducible refine Kd.C_drewN ?_ _) | (with_reducible refine Kd.C_drew ?_)))
      (case side8 => exact (Kd.S_reads' HO286.out).2.1)
      (case side9 => repeat (first | exact (Kd.R_reads' HO289.out).2.2 | (with_reducible refine Kd.C_alloc ?_ _) | (with_reducible refine Kd.C_drewN ?_ _) | (with_reducible refine Kd.C_drew ?_)))
      (case side10 => exact (Kd.R_reads' HO289.out).2.1)
      (case side11 => repeat (first | exact (Kd.R_reads' HO292.out).2.2 | (with_reducible refine Kd.C_alloc ?_ _) | (with_reducible refine Kd.C_drewN ?_ _) | (with_reducible refine Kd.C_drew ?_)))
      (case side12 => exact (Kd.R_reads' HO292.out).2.1)
      (case side13 => repeat (first | exact (Kd.S_reads' HO295.out).2.2 | (with_reducible refine Kd.C_alloc ?_ _) | (with_reducible refine Kd.C_drewN ?_ _) | (with_reducible refine Kd.C_drew ?_)))
      (case side14 => exact (Kd.S_reads' HO295.out).2.1)
      (case side15 => repeat (first | exact (Kd.S_reads' HO298.out).2.2 | (with_reducible refine Kd.C_alloc ?_ _) | (with_reducible refine Kd.C_drewN ?_ _) | (with_reducible refine Kd.C_drew ?_)))
      (case side16 => exact (Kd.S_reads' HO298.out).2.1)
      (case side17 => repeat (first | exact (Kd.R_reads' HO304.out).2.2 | (with_reducible refine Kd.C_alloc ?_ _) | (with_reducible refine Kd.C_drewN ?_ _) | (with_reducible refine Kd.C_drew ?_)))
      (case side18 => exact (Kd.R_reads' HO304.out).2.1)
      (case side19 => repeat (first | exact (Kd.R_reads' HO307.out).2.2 | (with_reducible refine Kd.C_alloc ?_ _) | (with_reducible refine Kd.C_drewN ?_ _) | (with_reducible refine Kd.C_drew ?_)))
      (case side20 => exact (Kd.R_reads' HO307.out).2.1)
      (case side21 => repeat (first | exact (Kd.R_reads' HO310.out).2.2 | (with_reducible refine Kd.C_alloc ?_ _) | (with_reducible refine Kd.C_drewN ?_ _) | (with_reducible refine Kd.C_drew ?_)))
      (case side22 => exact (Kd.R_reads' HO310.out).2.1)
      (case side23 => repeat (first | exact (Kd.S_reads' HO313.out).2.2 | (with_reducible refine Kd.C_alloc ?_ _) | (with_reducible refine Kd.C_drewN ?_ _) | (with_reducible refine Kd.C_drew ?_)))
      (case side24 => exact (Kd.S_reads' HO313.out).2.1)
      (case side25 => repeat (first | exact (Kd.R_reads' HO316.out).2.2 | (with_reducible refine Kd.C_alloc ?_ _) | (with_reducible refine Kd.C_drewN ?_ _) | (with_reducible refine Kd.C_drew ?_)))
      (case side26 => exact (Kd.R_reads' HO316.out).2.1)
      (case side27 => repeat (first | exact (Kd.R_reads' HO319.out).2.2 | (with_reducible refine Kd.C_alloc ?_ _) | (with_reducible refine Kd.C_drewN ?_ _) | (with_reducible refine Kd.C_drew ?_)))
      (case side28 => exact (Kd.R_reads' HO319.out).2.1)
      (case side29 => repeat (first | exact (Kd.S_reads' HO322.out).2.2 | (with_reducible refine Kd.C_alloc ?_ _) | (with_reducible refine Kd.C_drewN ?_ _) | (with_reducible refine Kd.C_drew ?_)))
      (case side30 => exact (Kd.S_reads' HO322.out).2.1)
      (case side31 => repeat (first | exact (Kd.S_reads' HO325.out).2.2 | (with_reducible refine Kd.C_alloc ?_ _) | (with_reducible refine Kd.C_drewN ?_ _) | (with_reducible refine Kd.C_drew ?_)))
      (case side32 => exact (Kd.S_reads' HO325.out).2.1)
      rintro e w58 ⟨rfl, hb⟩
      refine ⟨_, rfl, ?_⟩
      have n0_ := Aside0.mk (Kd.R_below (ra_ HO277.out) hb)
      have n1_ := Aside0.mk (Kd.R_below (ra_ HO280.out) hb)
      have n2_ := Aside0.mk (Kd.R_below (ra_ HO283.out) hb)
      have n3_ := Aside0.mk (Kd.S_below (sa_ HO286.out) hb)
      have n4_ := Aside0.mk (Kd.R_below (ra_ HO289.out) hb)
      have n5_ := Aside0.mk (Kd.R_below (ra_ HO292.out) hb)
      have n6_ := Aside0.mk (Kd.S_below (sa_ HO295.out) hb)
      have n7_ := Aside0.mk (Kd.S_below (sa_ HO298.out) hb)
      have n8_ := Aside0.mk (Kd.R_below (ra_ HO304.out) hb)
      have n9_ := Aside0.mk (Kd.R_below (ra_ HO307.out) hb)
      have n10_ := Aside0.mk (Kd.R_below (ra_ HO310.out) hb)
      have n11_ := Aside0.mk (Kd.S_below (sa_ HO313.out) hb)
      have n12_ := Aside0.mk (Kd.R_below (ra_ HO316.out) hb)
      have n13_ := Aside0.mk (Kd.R_below (ra_ HO319.out) hb)
      have n14_ := Aside0.mk (Kd.S_below (sa_ HO322.out) hb)
      have n15_ := Aside0.mk (Kd.S_below (sa_ HO325.out) hb)
      have n16_ := Aside0.mk (bk_ BK269.out hb)
      have n17_ := Aside0.mk (bk_ BK270.out hb)
      have n18_ := Aside0.mk (bs_ HB.out hb)
      clear HO277
      clear HO280
      clear HO283
      clear HO286
      clear HO289
      clear HO292
      clear HO295
      clear HO298
      clear HO304
      clear HO307
      clear HO310
      clear HO313
      clear HO316
      clear HO319
      clear HO322
      clear HO325
      clear BK269
      clear BK270
      clear HB
      have HO277 := n0_
      have HO280 := n1_
      have HO283 := n2_
      have HO286 := n3_
      have HO289 := n4_
      have HO292 := n5_
      have HO295 := n6_
      have HO298 := n7_
      have HO304 := n8_
      have HO307 := n9_
      have HO310 := n10_
      have HO313 := n11_
      have HO316 := n12_
      have HO319 := n13_
      have HO322 := n14_
      have HO325 := n15_
      have BK269 := n16_
      have BK270 := n17_
      have HB := n18_
      clear n0_ n1_ n2_ n3_ n4_ n5_ n6_ n7_ n8_ n9_ n10_ n11_ n12_ n13_ n14_ n15_ n16_ n17_ n18_
      (try clear hb)
      (try clear hb2)
      (try clear hk)
      (try clear hi)
      refine hK.out _ _ ⟨(blk_cell BK269.out 0).trans rfl, (blk_cell BK269.out 1).trans rfl, (blk_cell BK269.out 2).trans rfl, (blk_cell BK269.out 3).trans rfl, (blk_cell BK269.out 4).trans rfl, (blk_cell BK269.out 5).trans rfl, (blk_cell BK269.out 6).trans rfl, (blk_cell BK269.out 7).trans rfl, (blk_cell BK269.out 8).trans rfl, (blk_cell BK269.out 9).trans rfl, (blk_cell BK269.out 10).trans rfl, (blk_cell BK270.out 0).trans rfl, (blk_cell BK270.out 1).trans rfl, (blk_cell BK270.out 2).trans rfl, (blk_cell BK270.out 3).trans rfl, (blk_cell BK270.out 4).trans rfl, (blk_cell BK270.out 5).trans rfl, (blk_cell BK270.out 6).trans rfl, (blk_cell BK270.out 7).trans rfl, (blk_cell BK270.out 8).trans rfl, (blk_cell BK270.out 9).trans rfl, (blk_cell BK270.out 10).trans rfl⟩ (fun hHeld => ?_)
      clear hK K
      refine norm_ (a' := ?_) ?_ ?_
      rotate_left
      ·show Act.put _ (some 24) _ = _
       simp only [Act.put, List.setIfInBounds_toArray, List.set_cons_zero, List.set_cons_succ, i64_w, i32_w]
       rfl
      refine pure_ (i := 5) (N := some 6) (v := ?_) (a' := ?_) (bt_ 6 63) rfl rfl (by kernel_rfl) (fun _ _ _ h => h) (Or.inl ⟨by rfl, ?_⟩) ?_ ?_
      rotate_left
      ·intro w'
       go_simp
       with_reducible rfl
      rotate_left
      ·simp only [Act.put, List.setIfInBounds_toArray, List.set_cons_zero, List.set_cons_succ, i64_w, i32_w]
       rfl
      refine done_ (by kernel_rfl) ?_
      obtain ⟨hcz59_0, hcz59_1, hcz59_2, hcz59_3, hcz59_4, hcz59_5, hcz59_6, hcz59_7, hcz59_8, hcz59_9, hcz59_10, hfz59_0, hfz59_1, hfz59_2, hfz59_3, hfz59_4, hfz59_5, hfz59_6, hfz59_7, hfz59_8, hfz59_9, hfz59_10⟩ := cz11_ BK269.out
      try go_wp2_with (first | ((with_reducible refine gate_callee (f := 50) rfl ?_); refine gm_ (some 26) Try.func50 #[.agg #[.int .i64 a0_0, .int .i64 a0_1, .slice A0_2 l0_2.length c0_2, .slice A0_3 l0_3.length c0_3, .slice A0_4 l0_4.length c0_4, .slice A0_5 l0_5.length c0_5, .slice A0_6 l0_6.length c0_6, .slice A0_7 l0_7.length c0_7, .slice A0_8 l0_8.length c0_8, .slice A0_9 l0_9.length c0_9, .int .i64 a0_10]] rfl ?_; (with_reducible refine (laws_toNet.calls k a0_0 a0_1 _ _ l0_2 _ _ l0_3 _ _ l0_4 _ _ l0_5 _ _ l0_6 _ _ l0_7 _ _ l0_8 _ _ l0_9 a0_10 t328 t329 t330 t333 t336 t339 t342 t345 t348 t351 t354 _ ?side1 HC0_2.out ?side3 HC0_3.out ?side5 HC0_4.out ?side7 HC0_5.out ?side9 HC0_6.out ?side11 HC0_7.out ?side13 HC0_8.out ?side15 HC0_9.out A22.out).mono ?_); (case side1 => exact cb_ HR0_2.out HB.out); (case side3 => exact cb_ HR0_3.out HB.out); (case side5 => exact cb_ HR0_4.out HB.out); (case side7 => exact cb_ HR0_5.out HB.out); (case side9 => exact cb_ HR0_6.out HB.out); (case side11 => exact cb_ HR0_7.out HB.out); (case side13 => exact cb_ HR0_8.out HB.out); (case side15 => exact cb_ HR0_9.out HB.out); rintro e w60 ⟨v331, v334, v337, v340, v343, v346, v349, v352, rfl, ho0, ho1, ho2, ho3, ho4, ho5, ho6, ho7, hb⟩; refine ⟨_, rfl, ?_⟩; have HO332 := Aside0.mk (Kd.R_lower (Kd.R_new' (Kd.R_new' (Kd.R_new' (Kd.R_new' (Kd.R_new' (Kd.R_new' (Kd.R_new' (Kd.R_new' (Kd.R_new' (Kd.R_new' ho0 (rl_ HO277.out)) (rl_ HO280.out)) (rl_ HO283.out)) (rl_ HO289.out)) (rl_ HO292.out)) (rl_ HO304.out)) (rl_ HO307.out)) (rl_ HO310.out)) (rl_ HO316.out)) (rl_ HO319.out)) (bz_ HB.out)); have HO335 := Aside0.mk (Kd.R_lower (Kd.R_new' (Kd.R_new' (Kd.R_new' (Kd.R_new' (Kd.R_new' (Kd.R_new' (Kd.R_new' (Kd.R_new' (Kd.R_new' (Kd.R_new' ho1 (rl_ HO277.out)) (rl_ HO280.out)) (rl_ HO283.out)) (rl_ HO289.out)) (rl_ HO292.out)) (rl_ HO304.out)) (rl_ HO307.out)) (rl_ HO310.out)) (rl_ HO316.out)) (rl_ HO319.out)) (bz_ HB.out)); have HO338 := Aside0.mk (Kd.R_lower (Kd.R_new' (Kd.R_new' (Kd.R_new' (Kd.R_new' (Kd.R_new' (Kd.R_new' (Kd.R_new' (Kd.R_new' (Kd.R_new' (Kd.R_new' ho2 (rl_ HO277.out)) (rl_ HO280.out)) (rl_ HO283.out)) (rl_ HO289.out)) (rl_ HO292.out)) (rl_ HO304.out)) (rl_ HO307.out)) (rl_ HO310.out)) (rl_ HO316.out)) (rl_ HO319.out)) (bz_ HB.out)); have HO341 := Aside0.mk (Kd.S_lower (Kd.S_new' (Kd.S_new' (Kd.S_new' (Kd.S_new' (Kd.S_new' (Kd.S_new' ho3 (sl_ HO286.out)) (sl_ HO295.out)) (sl_ HO298.out)) (sl_ HO313.out)) (sl_ HO322.out)) (sl_ HO325.out)) (bz_ HB.out)); have HO344 := Aside0.mk (Kd.R_lower (Kd.R_new' (Kd.R_new' (Kd.R_new' (Kd.R_new' (Kd.R_new' (Kd.R_new' (Kd.R_new' (Kd.R_new' (Kd.R_new' (Kd.R_new' ho4 (rl_ HO277.out)) (rl_ HO280.out)) (rl_ HO283.out)) (rl_ HO289.out)) (rl_ HO292.out)) (rl_ HO304.out)) (rl_ HO307.out)) (rl_ HO310.out)) (rl_ HO316.out)) (rl_ HO319.out)) (bz_ HB.out)); have HO347 := Aside0.mk (Kd.R_lower (Kd.R_new' (Kd.R_new' (Kd.R_new' (Kd.R_new' (Kd.R_new' (Kd.R_new' (Kd.R_new' (Kd.R_new' (Kd.R_new' (Kd.R_new' ho5 (rl_ HO277.out)) (rl_ HO280.out)) (rl_ HO283.out)) (rl_ HO289.out)) (rl_ HO292.out)) (rl_ HO304.out)) (rl_ HO307.out)) (rl_ HO310.out)) (rl_ HO316.out)) (rl_ HO319.out)) (bz_ HB.out)); replace HO277 := Aside0.mk (Kd.R_mono (Kd.R_told (Kd.R_told (Kd.R_told (Kd.R_told (Kd.R_told (Kd.R_old (ra_ HO277.out) hb) (Kd.R_base ho0)) (Kd.R_base ho1)) (Kd.R_base ho2)) (Kd.R_base ho4)) (Kd.R_base ho5)) (fun _ h_ => h_.1)); replace HO280 := Aside0.mk (Kd.R_mono (Kd.R_told (Kd.R_told (Kd.R_told (Kd.R_told (Kd.R_told (Kd.R_old (ra_ HO280.out) hb) (Kd.R_base ho0)) (Kd.R_base ho1)) (Kd.R_base ho2)) (Kd.R_base ho4)) (Kd.R_base ho5)) (fun _ h_ => h_.1)); replace HO283 := Aside0.mk (Kd.R_mono (Kd.R_told (Kd.R_told (Kd.R_told (Kd.R_told (Kd.R_told (Kd.R_old (ra_ HO283.out) hb) (Kd.R_base ho0)) (Kd.R_base ho1)) (Kd.R_base ho2)) (Kd.R_base ho4)) (Kd.R_base ho5)) (fun _ h_ => h_.1)); replace HO289 := Aside0.mk (Kd.R_mono (Kd.R_told (Kd.R_told (Kd.R_told (Kd.R_told (Kd.R_told (Kd.R_old (ra_ HO289.out) hb) (Kd.R_base ho0)) (Kd.R_base ho1)) (Kd.R_base ho2)) (Kd.R_base ho4)) (Kd.R_base ho5)) (fun _ h_ => h_.1)); replace HO292 := Aside0.mk (Kd.R_mono (Kd.R_told (Kd.R_told (Kd.R_told (Kd.R_told (Kd.R_told (Kd.R_old (ra_ HO292.out) hb) (Kd.R_base ho0)) (Kd.R_base ho1)) (Kd.R_base ho2)) (Kd.R_base ho4)) (Kd.R_base ho5)) (fun _ h_ => h_.1)); replace HO304 := Aside0.mk (Kd.R_mono (Kd.R_told (Kd.R_told (Kd.R_told (Kd.R_told (Kd.R_told (Kd.R_old (ra_ HO304.out) hb) (Kd.R_base ho0)) (Kd.R_base ho1)) (Kd.R_base ho2)) (Kd.R_base ho4)) (Kd.R_base ho5)) (fun _ h_ => h_.1)); replace HO307 := Aside0.mk (Kd.R_mono (Kd.R_told (Kd.R_told (Kd.R_told (Kd.R_told (Kd.R_told (Kd.R_old (ra_ HO307.out) hb) (Kd.R_base ho0)) (Kd.R_base ho1)) (Kd.R_base ho2)) (Kd.R_base ho4)) (Kd.R_base ho5)) (fun _ h_ => h_.1)); replace HO310 := Aside0.mk (Kd.R_mono (Kd.R_told (Kd.R_told (Kd.R_told (Kd.R_told (Kd.R_told (Kd.R_old (ra_ HO310.out) hb) (Kd.R_base ho0)) (Kd.R_base ho1)) (Kd.R_base ho2)) (Kd.R_base ho4)) (Kd.R_base ho5)) (fun _ h_ => h_.1)); replace HO316 := Aside0.mk (Kd.R_mono (Kd.R_told (Kd.R_told (Kd.R_told (Kd.R_told (Kd.R_told (Kd.R_old (ra_ HO316.out) hb) (Kd.R_base ho0)) (Kd.R_base ho1)) (Kd.R_base ho2)) (Kd.R_base ho4)) (Kd.R_base ho5)) (fun _ h_ => h_.1)); replace HO319 := Aside0.mk (Kd.R_mono (Kd.R_told (Kd.R_told (Kd.R_told (Kd.R_told (Kd.R_told (Kd.R_old (ra_ HO319.out) hb) (Kd.R_base ho0)) (Kd.R_base ho1)) (Kd.R_base ho2)) (Kd.R_base ho4)) (Kd.R_base ho5)) (fun _ h_ => h_.1)); have HO350 := Aside0.mk (Kd.S_lower (Kd.S_new' (Kd.S_new' (Kd.S_new' (Kd.S_new' (Kd.S_new' (Kd.S_new' ho6 (sl_ HO286.out)) (sl_ HO295.out)) (sl_ HO298.out)) (sl_ HO313.out)) (sl_ HO322.out)) (sl_ HO325.out)) (bz_ HB.out)); have HO353 := Aside0.mk (Kd.S_lower (Kd.S_new' (Kd.S_new' (Kd.S_new' (Kd.S_new' (Kd.S_new' (Kd.S_new' ho7 (sl_ HO286.out)) (sl_ HO295.out)) (sl_ HO298.out)) (sl_ HO313.out)) (sl_ HO322.out)) (sl_ HO325.out)) (bz_ HB.out)); replace HO286 := Aside0.mk (Kd.S_mono (Kd.S_told (Kd.S_told (Kd.S_told (Kd.S_old (sa_ HO286.out) hb) (Kd.S_base ho3)) (Kd.S_base ho6)) (Kd.S_base ho7)) (fun _ h_ => h_.1)); replace HO295 := Aside0.mk (Kd.S_mono (Kd.S_told (Kd.S_told (Kd.S_told (Kd.S_old (sa_ HO295.out) hb) (Kd.S_base ho3)) (Kd.S_base ho6)) (Kd.S_base ho7)) (fun _ h_ => h_.1)); replace HO298 := Aside0.mk (Kd.S_mono (Kd.S_told (Kd.S_told (Kd.S_told (Kd.S_old (sa_ HO298.out) hb) (Kd.S_base ho3)) (Kd.S_base ho6)) (Kd.S_base ho7)) (fun _ h_ => h_.1)); replace HO313 := Aside0.mk (Kd.S_mono (Kd.S_told (Kd.S_told (Kd.S_told (Kd.S_old (sa_ HO313.out) hb) (Kd.S_base ho3)) (Kd.S_base ho6)) (Kd.S_base ho7)) (fun _ h_ => h_.1)); replace HO322 := Aside0.mk (Kd.S_mono (Kd.S_told (Kd.S_told (Kd.S_told (Kd.S_old (sa_ HO322.out) hb) (Kd.S_base ho3)) (Kd.S_base ho6)) (Kd.S_base ho7)) (fun _ h_ => h_.1)); replace HO325 := Aside0.mk (Kd.S_mono (Kd.S_told (Kd.S_told (Kd.S_told (Kd.S_old (sa_ HO325.out) hb) (Kd.S_base ho3)) (Kd.S_base ho6)) (Kd.S_base ho7)) (fun _ h_ => h_.1)); replace BK269 := Aside0.mk (bk_ BK269.out hb); replace BK270 := Aside0.mk (bk_ BK270.out hb); replace HB := Aside0.mk (bs_ HB.out hb); (try clear hb); (try clear ho0); (try clear ho1); (try clear ho2); (try clear ho3); (try clear ho4); (try clear ho5); (try clear ho6); (try clear ho7)) | ((with_reducible refine gate_dst (N := 7) rfl ?_); refine box_event ?hg (N := 7) ?hd (cs := #[.int .i64 0, .int .i64 0, .slice none 0 0, .slice none 0 0, .slice none 0 0, .slice none 0 0, .slice none 0 0, .slice none 0 0, .slice none 0 0, .slice none 0 0, .int .i64 0]) (t := 55) ?hr ?_; (case hd => rfl); (case hg => rfl); (case hr => first | (go_simp; done) | (go_simp; rfl)); intro gb355 hg w61 hbox hb; replace HO277 := Aside0.mk (Kd.R_below (ra_ HO277.out) hb); replace HO280 := Aside0.mk (Kd.R_below (ra_ HO280.out) hb); replace HO283 := Aside0.mk (Kd.R_below (ra_ HO283.out) hb); replace HO286 := Aside0.mk (Kd.S_below (sa_ HO286.out) hb); replace HO289 := Aside0.mk (Kd.R_below (ra_ HO289.out) hb); replace HO292 := Aside0.mk (Kd.R_below (ra_ HO292.out) hb); replace HO295 := Aside0.mk (Kd.S_below (sa_ HO295.out) hb); replace HO298 := Aside0.mk (Kd.S_below (sa_ HO298.out) hb); replace HO304 := Aside0.mk (Kd.R_below (ra_ HO304.out) hb); replace HO307 := Aside0.mk (Kd.R_below (ra_ HO307.out) hb); replace HO310 := Aside0.mk (Kd.R_below (ra_ HO310.out) hb); replace HO313 := Aside0.mk (Kd.S_below (sa_ HO313.out) hb); replace HO316 := Aside0.mk (Kd.R_below (ra_ HO316.out) hb); replace HO319 := Aside0.mk (Kd.R_below (ra_ HO319.out) hb); replace HO322 := Aside0.mk (Kd.S_below (sa_ HO322.out) hb); replace HO325 := Aside0.mk (Kd.S_below (sa_ HO325.out) hb); replace HO332 := Aside0.mk (Kd.R_below (ra_ HO332.out) hb); replace HO335 := Aside0.mk (Kd.R_below (ra_ HO335.out) hb); replace HO338 := Aside0.mk (Kd.R_below (ra_ HO338.out) hb); replace HO341 := Aside0.mk (Kd.S_below (sa_ HO341.out) hb); replace HO344 := Aside0.mk (Kd.R_below (ra_ HO344.out) hb); replace HO347 := Aside0.mk (Kd.R_below (ra_ HO347.out) hb); replace HO350 := Aside0.mk (Kd.S_below (sa_ HO350.out) hb); replace HO353 := Aside0.mk (Kd.S_below (sa_ HO353.out) hb); have BK355 := Aside0.mk (hbox); have GW355 := Aside0.mk ((by rw [hg]; exact (bz_ HB.out) : w.heap.size ≤ gb355)); have GE355 := Aside0.mk ((by rw [hg]; exact (bz_ HB.out) : w.heap.size ≤ gb355)); replace HB := Aside0.mk (bs_ HB.out hb); have NB269_355 := Aside0.mk ((by rw [hg]; exact Nat.ne_of_lt (bl_ BK269.out) : gb269 ≠ gb355)); have NB355_269 := Aside0.mk ((by rw [hg]; exact Nat.ne_of_gt (bl_ BK269.out) : gb355 ≠ gb269)); replace BK269 := Aside0.mk (bk_ BK269.out hb); have NB270_355 := Aside0.mk ((by rw [hg]; exact Nat.ne_of_lt (bl_ BK270.out) : gb270 ≠ gb355)); have NB355_270 := Aside0.mk ((by rw [hg]; exact Nat.ne_of_gt (bl_ BK270.out) : gb355 ≠ gb270)); replace BK270 := Aside0.mk (bk_ BK270.out hb); clear hb hbox hg; have hnb62 := NB355_269.out; have hnc62 := NB269_355.out; have hnb63 := NB355_270.out; have hnc63 := NB270_355.out; obtain ⟨hcz64_0, hcz64_1, hcz64_2, hcz64_3, hcz64_4, hcz64_5, hcz64_6, hcz64_7, hcz64_8, hcz64_9, hcz64_10, hfz64_0, hfz64_1, hfz64_2, hfz64_3, hfz64_4, hfz64_5, hfz64_6, hfz64_7, hfz64_8, hfz64_9, hfz64_10⟩ := cz11_ BK355.out; obtain ⟨Ao65, co65, eo65⟩ := Kd.R_slice HO332.out; subst eo65; obtain ⟨Ao66, co66, eo66⟩ := Kd.R_slice HO335.out; subst eo66; obtain ⟨Ao67, co67, eo67⟩ := Kd.R_slice HO338.out; subst eo67; obtain ⟨Ao68, co68, eo68⟩ := Kd.S_slice HO341.out; subst eo68; obtain ⟨Ao69, co69, eo69⟩ := Kd.R_slice HO344.out; subst eo69; obtain ⟨Ao70, co70, eo70⟩ := Kd.R_slice HO347.out; subst eo70; obtain ⟨Ao71, co71, eo71⟩ := Kd.S_slice HO350.out; subst eo71; obtain ⟨Ao72, co72, eo72⟩ := Kd.S_slice HO353.out; subst eo72; obtain ⟨hcz73_0, hcz73_1, hcz73_2, hcz73_3, hcz73_4, hcz73_5, hcz73_6, hcz73_7, hcz73_8, hcz73_9, hcz73_10, hfz73_0, hfz73_1, hfz73_2, hfz73_3, hfz73_4, hfz73_5, hfz73_6, hfz73_7, hfz73_8, hfz73_9, hfz73_10⟩ := cz11_ BK270.out) | ((with_reducible refine gate_callee (f := 50) rfl ?_); refine gm_ (some 28) Try.func50 #[.agg #[.int .i64 a1_0, .int .i64 a1_1, .slice A1_2 l1_2.length c1_2, .slice A1_3 l1_3.length c1_3, .slice A1_4 l1_4.length c1_4, .slice A1_5 l1_5.length c1_5, .slice A1_6 l1_6.length c1_6, .slice A1_7 l1_7.length c1_7, .slice A1_8 l1_8.length c1_8, .slice A1_9 l1_9.length c1_9, .int .i64 a1_10]] rfl ?_; (with_reducible refine (laws_toNet.calls k a1_0 a1_1 _ _ l1_2 _ _ l1_3 _ _ l1_4 _ _ l1_5 _ _ l1_6 _ _ l1_7 _ _ l1_8 _ _ l1_9 a1_10 t356 t357 t358 t361 t364 t367 t370 t373 t376 t379 t382 _ ?side1 HC1_2.out ?side3 HC1_3.out ?side5 HC1_4.out ?side7 HC1_5.out ?side9 HC1_6.out ?side11 HC1_7.out ?side13 HC1_8.out ?side15 HC1_9.out A23.out).mono ?_); (case side1 => exact Kd.C_below HR1_2.out (by repeat (first | (with_reducible first | exact HB.out | apply below_alloc | apply pw_below_drewN | apply below_drew1 | refine below_set ?_ GE269.out | refine below_set ?_ GE270.out | refine below_set ?_ GE355.out) | exact HB.out))); (case side3 => exact Kd.C_below HR1_3.out (by repeat (first | (with_reducible first | exact HB.out | apply below_alloc | apply pw_below_drewN | apply below_drew1 | refine below_set ?_ GE269.out | refine below_set ?_ GE270.out | refine below_set ?_ GE355.out) | exact HB.out))); (case side5 => exact Kd.C_below HR1_4.out (by repeat (first | (with_reducible first | exact HB.out | apply below_alloc | apply pw_below_drewN | apply below_drew1 | refine below_set ?_ GE269.out | refine below_set ?_ GE270.out | refine below_set ?_ GE355.out) | exact HB.out))); (case side7 => exact Kd.C_below HR1_5.out (by repeat (first | (with_reducible first | exact HB.out | apply below_alloc | apply pw_below_drewN | apply below_drew1 | refine below_set ?_ GE269.out | refine below_set ?_ GE270.out | refine below_set ?_ GE355.out) | exact HB.out))); (case side9 => exact Kd.C_below HR1_6.out (by repeat (first | (with_reducible first | exact HB.out | apply below_alloc | apply pw_below_drewN | apply below_drew1 | refine below_set ?_ GE269.out | refine below_set ?_ GE270.out | refine below_set ?_ GE355.out) | exact HB.out))); (case side11 => exact Kd.C_below HR1_7.out (by repeat (first | (with_reducible first | exact HB.out | apply below_alloc | apply pw_below_drewN | apply below_drew1 | refine below_set ?_ GE269.out | refine below_set ?_ GE270.out | refine below_set ?_ GE355.out) | exact HB.out))); (case side13 => exact Kd.C_below HR1_8.out (by repeat (first | (with_reducible first | exact HB.out | apply below_alloc | apply pw_below_drewN | apply below_drew1 | refine below_set ?_ GE269.out | refine below_set ?_ GE270.out | refine below_set ?_ GE355.out) | exact HB.out))); (case side15 => exact Kd.C_below HR1_9.out (by repeat (first | (with_reducible first | exact HB.out | apply below_alloc | apply pw_below_drewN | apply below_drew1 | refine below_set ?_ GE269.out | refine below_set ?_ GE270.out | refine below_set ?_ GE355.out) | exact HB.out))); rintro e w74 ⟨v359, v362, v365, v368, v371, v374, v377, v380, rfl, ho0, ho1, ho2, ho3, ho4, ho5, ho6, ho7, hb⟩; refine ⟨_, rfl, ?_⟩; have HO360 := Aside0.mk (Kd.R_lower (Kd.R_new' (Kd.R_new' (Kd.R_new' (Kd.R_new' (Kd.R_new' (Kd.R_new' (Kd.R_new' (Kd.R_new' (Kd.R_new' (Kd.R_new' (Kd.R_new' (Kd.R_new' (Kd.R_new' (Kd.R_new' (Kd.R_new' ho0 (Kd.R_lt (rm_ (Kd.R_types HO277.out BK355.out (by decide)) (fun _ h_ => h_.1)))) (Kd.R_lt (rm_ (Kd.R_types HO280.out BK355.out (by decide)) (fun _ h_ => h_.1)))) (Kd.R_lt (rm_ (Kd.R_types HO283.out BK355.out (by decide)) (fun _ h_ => h_.1)))) (Kd.R_lt (rm_ (Kd.R_types HO289.out BK355.out (by decide)) (fun _ h_ => h_.1)))) (Kd.R_lt (rm_ (Kd.R_types HO292.out BK355.out (by decide)) (fun _ h_ => h_.1)))) (Kd.R_lt (rm_ (Kd.R_types HO304.out BK355.out (by decide)) (fun _ h_ => h_.1)))) (Kd.R_lt (rm_ (Kd.R_types HO307.out BK355.out (by decide)) (fun _ h_ => h_.1)))) (Kd.R_lt (rm_ (Kd.R_types HO310.out BK355.out (by decide)) (fun _ h_ => h_.1)))) (Kd.R_lt (rm_ (Kd.R_types HO316.out BK355.out (by decide)) (fun _ h_ => h_.1)))) (Kd.R_lt (rm_ (Kd.R_types HO319.out BK355.out (by decide)) (fun _ h_ => h_.1)))) (Kd.R_lt (rm_ (Kd.R_types HO332.out BK355.out (by decide)) (fun _ h_ => h_.1)))) (Kd.R_lt (rm_ (Kd.R_types HO335.out BK355.out (by decide)) (fun _ h_ => h_.1)))) (Kd.R_lt (rm_ (Kd.R_types HO338.out BK355.out (by decide)) (fun _ h_ => h_.1)))) (Kd.R_lt (rm_ (Kd.R_types HO344.out BK355.out (by decide)) (fun _ h_ => h_.1)))) (Kd.R_lt (rm_ (Kd.R_types HO347.out BK355.out (by decide)) (fun _ h_ => h_.1)))) (bz_ HB.out)); have HO363 := Aside0.mk (Kd.R_lower (Kd.R_new' (Kd.R_new' (Kd.R_new' (Kd.R_new' (Kd.R_new' (Kd.R_new' (Kd.R_new' (Kd.R_new' (Kd.R_new' (Kd.R_new' (Kd.R_new' (Kd.R_new' (Kd.R_new' (Kd.R_new' (Kd.R_new' ho1 (Kd.R_lt (rm_ (Kd.R_types HO277.out BK355.out (by decide)) (fun _ h_ => h_.1)))) (Kd.R_lt (rm_ (Kd.R_types HO280.out BK355.out (by decide)) (fun _ h_ => h_.1)))) (Kd.R_lt (rm_ (Kd.R_types HO283.out BK355.out (by decide)) (fun _ h_ => h_.1)))) (Kd.R_lt (rm_ (Kd.R_types HO289.out BK355.out (by decide)) (fun _ h_ => h_.1)))) (Kd.R_lt (rm_ (Kd.R_types HO292.out BK355.out (by decide)) (fun _ h_ => h_.1)))) (Kd.R_lt (rm_ (Kd.R_types HO304.out BK355.out (by decide)) (fun _ h_ => h_.1)))) (Kd.R_lt (rm_ (Kd.R_types HO307.out BK355.out (by decide)) (fun _ h_ => h_.1)))) (Kd.R_lt (rm_ (Kd.R_types HO310.out BK355.out (by decide)) (fun _ h_ => h_.1)))) (Kd.R_lt (rm_ (Kd.R_types HO316.out BK355.out (by decide)) (fun _ h_ => h_.1)))) (Kd.R_lt (rm_ (Kd.R_types HO319.out BK355.out (by decide)) (fun _ h_ => h_.1)))) (Kd.R_lt (rm_ (Kd.R_types HO332.out BK355.out (by decide)) (fun _ h_ => h_.1)))) (Kd.R_lt (rm_ (Kd.R_types HO335.out BK355.out (by decide)) (fun _ h_ => h_.1)))) (Kd.R_lt (rm_ (Kd.R_types HO338.out BK355.out (by decide)) (fun _ h_ => h_.1)))) (Kd.R_lt (rm_ (Kd.R_types HO344.out BK355.out (by decide)) (fun _ h_ => h_.1)))) (Kd.R_lt (rm_ (Kd.R_types HO347.out BK355.out (by decide)) (fun _ h_ => h_.1)))) (bz_ HB.out)); have HO366 := Aside0.mk (Kd.R_lower (Kd.R_new' (Kd.R_new' (Kd.R_new' (Kd.R_new' (Kd.R_new' (Kd.R_new' (Kd.R_new' (Kd.R_new' (Kd.R_new' (Kd.R_new' (Kd.R_new' (Kd.R_new' (Kd.R_new' (Kd.R_new' (Kd.R_new' ho2 (Kd.R_lt (rm_ (Kd.R_types HO277.out BK355.out (by decide)) (fun _ h_ => h_.1)))) (Kd.R_lt (rm_ (Kd.R_types HO280.out BK355.out (by decide)) (fun _ h_ => h_.1)))) (Kd.R_lt (rm_ (Kd.R_types HO283.out BK355.out (by decide)) (fun _ h_ => h_.1)))) (Kd.R_lt (rm_ (Kd.R_types HO289.out BK355.out (by decide)) (fun _ h_ => h_.1)))) (Kd.R_lt (rm_ (Kd.R_types HO292.out BK355.out (by decide)) (fun _ h_ => h_.1)))) (Kd.R_lt (rm_ (Kd.R_types HO304.out BK355.out (by decide)) (fun _ h_ => h_.1)))) (Kd.R_lt (rm_ (Kd.R_types HO307.out BK355.out (by decide)) (fun _ h_ => h_.1)))) (Kd.R_lt (rm_ (Kd.R_types HO310.out BK355.out (by decide)) (fun _ h_ => h_.1)))) (Kd.R_lt (rm_ (Kd.R_types HO316.out BK355.out (by decide)) (fun _ h_ => h_.1)))) (Kd.R_lt (rm_ (Kd.R_types HO319.out BK355.out (by decide)) (fun _ h_ => h_.1)))) (Kd.R_lt (rm_ (Kd.R_types HO332.out BK355.out (by decide)) (fun _ h_ => h_.1)))) (Kd.R_lt (rm_ (Kd.R_types HO335.out BK355.out (by decide)) (fun _ h_ => h_.1)))) (Kd.R_lt (rm_ (Kd.R_types HO338.out BK355.out (by decide)) (fun _ h_ => h_.1)))) (Kd.R_lt (rm_ (Kd.R_types HO344.out BK355.out (by decide)) (fun _ h_ => h_.1)))) (Kd.R_lt (rm_ (Kd.R_types HO347.out BK355.out (by decide)) (fun _ h_ => h_.1)))) (bz_ HB.out)); have HO369 := Aside0.mk (Kd.S_lower (Kd.S_new' (Kd.S_new' (Kd.S_new' (Kd.S_new' (Kd.S_new' (Kd.S_new' (Kd.S_new' (Kd.S_new' (Kd.S_new' ho3 (Kd.S_lt (sm_ (Kd.S_types HO286.out BK355.out (by decide)) (fun _ h_ => h_.1)))) (Kd.S_lt (sm_ (Kd.S_types HO295.out BK355.out (by decide)) (fun _ h_ => h_.1)))) (Kd.S_lt (sm_ (Kd.S_types HO298.out BK355.out (by decide)) (fun _ h_ => h_.1)))) (Kd.S_lt (sm_ (Kd.S_types HO313.out BK355.out (by decide)) (fun _ h_ => h_.1)))) (Kd.S_lt (sm_ (Kd.S_types HO322.out BK355.out (by decide)) (fun _ h_ => h_.1)))) (Kd.S_lt (sm_ (Kd.S_types HO325.out BK355.out (by decide)) (fun _ h_ => h_.1)))) (Kd.S_lt (sm_ (Kd.S_types HO341.out BK355.out (by decide)) (fun _ h_ => h_.1)))) (Kd.S_lt (sm_ (Kd.S_types HO350.out BK355.out (by decide)) (fun _ h_ => h_.1)))) (Kd.S_lt (sm_ (Kd.S_types HO353.out BK355.out (by decide)) (fun _ h_ => h_.1)))) (bz_ HB.out)); have HO372 := Aside0.mk (Kd.R_lower (Kd.R_new' (Kd.R_new' (Kd.R_new' (Kd.R_new' (Kd.R_new' (Kd.R_new' (Kd.R_new' (Kd.R_new' (Kd.R_new' (Kd.R_new' (Kd.R_new' (Kd.R_new' (Kd.R_new' (Kd.R_new' (Kd.R_new' ho4 (Kd.R_lt (rm_ (Kd.R_types HO277.out BK355.out (by decide)) (fun _ h_ => h_.1)))) (Kd.R_lt (rm_ (Kd.R_types HO280.out BK355.out (by decide)) (fun _ h_ => h_.1)))) (Kd.R_lt (rm_ (Kd.R_types HO283.out BK355.out (by decide)) (fun _ h_ => h_.1)))) (Kd.R_lt (rm_ (Kd.R_types HO289.out BK355.out (by decide)) (fun _ h_ => h_.1)))) (Kd.R_lt (rm_ (Kd.R_types HO292.out BK355.out (by decide)) (fun _ h_ => h_.1)))) (Kd.R_lt (rm_ (Kd.R_types HO304.out BK355.out (by decide)) (fun _ h_ => h_.1)))) (Kd.R_lt (rm_ (Kd.R_types HO307.out BK355.out (by decide)) (fun _ h_ => h_.1)))) (Kd.R_lt (rm_ (Kd.R_types HO310.out BK355.out (by decide)) (fun _ h_ => h_.1)))) (Kd.R_lt (rm_ (Kd.R_types HO316.out BK355.out (by decide)) (fun _ h_ => h_.1)))) (Kd.R_lt (rm_ (Kd.R_types HO319.out BK355.out (by decide)) (fun _ h_ => h_.1)))) (Kd.R_lt (rm_ (Kd.R_types HO332.out BK355.out (by decide)) (fun _ h_ => h_.1)))) (Kd.R_lt (rm_ (Kd.R_types HO335.out BK355.out (by decide)) (fun _ h_ => h_.1)))) (Kd.R_lt (rm_ (Kd.R_types HO338.out BK355.out (by decide)) (fun _ h_ => h_.1)))) (Kd.R_lt (rm_ (Kd.R_types HO344.out BK355.out (by decide)) (fun _ h_ => h_.1)))) (Kd.R_lt (rm_ (Kd.R_types HO347.out BK355.out (by decide)) (fun _ h_ => h_.1)))) (bz_ HB.out)); have HO375 := Aside0.mk (Kd.R_lower (Kd.R_new' (Kd.R_new' (Kd.R_new' (Kd.R_new' (Kd.R_new' (Kd.R_new' (Kd.R_new' (Kd.R_new' (Kd.R_new' (Kd.R_new' (Kd.R_new' (Kd.R_new' (Kd.R_new' (Kd.R_new' (Kd.R_new' ho5 (Kd.R_lt (rm_ (Kd.R_types HO277.out BK355.out (by decide)) (fun _ h_ => h_.1)))) (Kd.R_lt (rm_ (Kd.R_types HO280.out BK355.out (by decide)) (fun _ h_ => h_.1)))) (Kd.R_lt (rm_ (Kd.R_types HO283.out BK355.out (by decide)) (fun _ h_ => h_.1)))) (Kd.R_lt (rm_ (Kd.R_types HO289.out BK355.out (by decide)) (fun _ h_ => h_.1)))) (Kd.R_lt (rm_ (Kd.R_types HO292.out BK355.out (by decide)) (fun _ h_ => h_.1)))) (Kd.R_lt (rm_ (Kd.R_types HO304.out BK355.out (by decide)) (fun _ h_ => h_.1)))) (Kd.R_lt (rm_ (Kd.R_types HO307.out BK355.out (by decide)) (fun _ h_ => h_.1)))) (Kd.R_lt (rm_ (Kd.R_types HO310.out BK355.out (by decide)) (fun _ h_ => h_.1)))) (Kd.R_lt (rm_ (Kd.R_types HO316.out BK355.out (by decide)) (fun _ h_ => h_.1)))) (Kd.R_lt (rm_ (Kd.R_types HO319.out BK355.out (by decide)) (fun _ h_ => h_.1)))) (Kd.R_lt (rm_ (Kd.R_types HO332.out BK355.out (by decide)) (fun _ h_ => h_.1)))) (Kd.R_lt (rm_ (Kd.R_types HO335.out BK355.out (by decide)) (fun _ h_ => h_.1)))) (Kd.R_lt (rm_ (Kd.R_types HO338.out BK355.out (by decide)) (fun _ h_ => h_.1)))) (Kd.R_lt (rm_ (Kd.R_types HO344.out BK355.out (by decide)) (fun _ h_ => h_.1)))) (Kd.R_lt (rm_ (Kd.R_types HO347.out BK355.out (by decide)) (fun _ h_ => h_.1)))) (bz_ HB.out)); replace HO277 := Aside0.mk (Kd.R_mono (Kd.R_told (Kd.R_told (Kd.R_told (Kd.R_told (Kd.R_told (Kd.R_old (rm_ (Kd.R_types HO277.out BK355.out (by decide)) (fun _ h_ => h_.1)) hb) (Kd.R_base ho0)) (Kd.R_base ho1)) (Kd.R_base ho2)) (Kd.R_base ho4)) (Kd.R_base ho5)) (fun _ h_ => h_.1)); replace HO280 := Aside0.mk (Kd.R_mono (Kd.R_told (Kd.R_told (Kd.R_told (Kd.R_told (Kd.R_told (Kd.R_old (rm_ (Kd.R_types HO280.out BK355.out (by decide)) (fun _ h_ => h_.1)) hb) (Kd.R_base ho0)) (Kd.R_base ho1)) (Kd.R_base ho2)) (Kd.R_base ho4)) (Kd.R_base ho5)) (fun _ h_ => h_.1)); replace HO283 := Aside0.mk (Kd.R_mono (Kd.R_told (Kd.R_told (Kd.R_told (Kd.R_told (Kd.R_told (Kd.R_old (rm_ (Kd.R_types HO283.out BK355.out (by decide)) (fun _ h_ => h_.1)) hb) (Kd.R_base ho0)) (Kd.R_base ho1)) (Kd.R_base ho2)) (Kd.R_base ho4)) (Kd.R_base ho5)) (fun _ h_ => h_.1)); replace HO289 := Aside0.mk (Kd.R_mono (Kd.R_told (Kd.R_told (Kd.R_told (Kd.R_told (Kd.R_told (Kd.R_old (rm_ (Kd.R_types HO289.out BK355.out (by decide)) (fun _ h_ => h_.1)) hb) (Kd.R_base ho0)) (Kd.R_base ho1)) (Kd.R_base ho2)) (Kd.R_base ho4)) (Kd.R_base ho5)) (fun _ h_ => h_.1)); replace HO292 := Aside0.mk (Kd.R_mono (Kd.R_told (Kd.R_told (Kd.R_told (Kd.R_told (Kd.R_told (Kd.R_old (rm_ (Kd.R_types HO292.out BK355.out (by decide)) (fun _ h_ => h_.1)) hb) (Kd.R_base ho0)) (Kd.R_base ho1)) (Kd.R_base ho2)) (Kd.R_base ho4)) (Kd.R_base ho5)) (fun _ h_ => h_.1)); replace HO304 := Aside0.mk (Kd.R_mono (Kd.R_told (Kd.R_told (Kd.R_told (Kd.R_told (Kd.R_told (Kd.R_old (rm_ (Kd.R_types HO304.out BK355.out (by decide)) (fun _ h_ => h_.1)) hb) (Kd.R_base ho0)) (Kd.R_base ho1)) (Kd.R_base ho2)) (Kd.R_base ho4)) (Kd.R_base ho5)) (fun _ h_ => h_.1)); replace HO307 := Aside0.mk (Kd.R_mono (Kd.R_told (Kd.R_told (Kd.R_told (Kd.R_told (Kd.R_told (Kd.R_old (rm_ (Kd.R_types HO307.out BK355.out (by decide)) (fun _ h_ => h_.1)) hb) (Kd.R_base ho0)) (Kd.R_base ho1)) (Kd.R_base ho2)) (Kd.R_base ho4)) (Kd.R_base ho5)) (fun _ h_ => h_.1)); replace HO310 := Aside0.mk (Kd.R_mono (Kd.R_told (Kd.R_told (Kd.R_told (Kd.R_told (Kd.R_told (Kd.R_old (rm_ (Kd.R_types HO310.out BK355.out (by decide)) (fun _ h_ => h_.1)) hb) (Kd.R_base ho0)) (Kd.R_base ho1)) (Kd.R_base ho2)) (Kd.R_base ho4)) (Kd.R_base ho5)) (fun _ h_ => h_.1)); replace HO316 := Aside0.mk (Kd.R_mono (Kd.R_told (Kd.R_told (Kd.R_told (Kd.R_told (Kd.R_told (Kd.R_old (rm_ (Kd.R_types HO316.out BK355.out (by decide)) (fun _ h_ => h_.1)) hb) (Kd.R_base ho0)) (Kd.R_base ho1)) (Kd.R_base ho2)) (Kd.R_base ho4)) (Kd.R_base ho5)) (fun _ h_ => h_.1)); replace HO319 := Aside0.mk (Kd.R_mono (Kd.R_told (Kd.R_told (Kd.R_told (Kd.R_told (Kd.R_told (Kd.R_old (rm_ (Kd.R_types HO319.out BK355.out (by decide)) (fun _ h_ => h_.1)) hb) (Kd.R_base ho0)) (Kd.R_base ho1)) (Kd.R_base ho2)) (Kd.R_base ho4)) (Kd.R_base ho5)) (fun _ h_ => h_.1)); replace HO332 := Aside0.mk (Kd.R_mono (Kd.R_told (Kd.R_told (Kd.R_told (Kd.R_told (Kd.R_told (Kd.R_old (rm_ (Kd.R_types HO332.out BK355.out (by decide)) (fun _ h_ => h_.1)) hb) (Kd.R_base ho0)) (Kd.R_base ho1)) (Kd.R_base ho2)) (Kd.R_base ho4)) (Kd.R_base ho5)) (fun _ h_ => h_.1)); replace HO335 := Aside0.mk (Kd.R_mono (Kd.R_told (Kd.R_told (Kd.R_told (Kd.R_told (Kd.R_told (Kd.R_old (rm_ (Kd.R_types HO335.out BK355.out (by decide)) (fun _ h_ => h_.1)) hb) (Kd.R_base ho0)) (Kd.R_base ho1)) (Kd.R_base ho2)) (Kd.R_base ho4)) (Kd.R_base ho5)) (fun _ h_ => h_.1)); replace HO338 := Aside0.mk (Kd.R_mono (Kd.R_told (Kd.R_told (Kd.R_told (Kd.R_told (Kd.R_told (Kd.R_old (rm_ (Kd.R_types HO338.out BK355.out (by decide)) (fun _ h_ => h_.1)) hb) (Kd.R_base ho0)) (Kd.R_base ho1)) (Kd.R_base ho2)) (Kd.R_base ho4)) (Kd.R_base ho5)) (fun _ h_ => h_.1)); replace HO344 := Aside0.mk (Kd.R_mono (Kd.R_told (Kd.R_told (Kd.R_told (Kd.R_told (Kd.R_told (Kd.R_old (rm_ (Kd.R_types HO344.out BK355.out (by decide)) (fun _ h_ => h_.1)) hb) (Kd.R_base ho0)) (Kd.R_base ho1)) (Kd.R_base ho2)) (Kd.R_base ho4)) (Kd.R_base ho5)) (fun _ h_ => h_.1)); replace HO347 := Aside0.mk (Kd.R_mono (Kd.R_told (Kd.R_told (Kd.R_told (Kd.R_told (Kd.R_told (Kd.R_old (rm_ (Kd.R_types HO347.out BK355.out (by decide)) (fun _ h_ => h_.1)) hb) (Kd.R_base ho0)) (Kd.R_base ho1)) (Kd.R_base ho2)) (Kd.R_base ho4)) (Kd.R_base ho5)) (fun _ h_ => h_.1)); have HO378 := Aside0.mk (Kd.S_lower (Kd.S_new' (Kd.S_new' (Kd.S_new' (Kd.S_new' (Kd.S_new' (Kd.S_new' (Kd.S_new' (Kd.S_new' (Kd.S_new' ho6 (Kd.S_lt (sm_ (Kd.S_types HO286.out BK355.out (by decide)) (fun _ h_ => h_.1)))) (Kd.S_lt (sm_ (Kd.S_types HO295.out BK355.out (by decide)) (fun _ h_ => h_.1)))) (Kd.S_lt (sm_ (Kd.S_types HO298.out BK355.out (by decide)) (fun _ h_ => h_.1)))) (Kd.S_lt (sm_ (Kd.S_types HO313.out BK355.out (by decide)) (fun _ h_ => h_.1)))) (Kd.S_lt (sm_ (Kd.S_types HO322.out BK355.out (by decide)) (fun _ h_ => h_.1)))) (Kd.S_lt (sm_ (Kd.S_types HO325.out BK355.out (by decide)) (fun _ h_ => h_.1)))) (Kd.S_lt (sm_ (Kd.S_types HO341.out BK355.out (by decide)) (fun _ h_ => h_.1)))) (Kd.S_lt (sm_ (Kd.S_types HO350.out BK355.out (by decide)) (fun _ h_ => h_.1)))) (Kd.S_lt (sm_ (Kd.S_types HO353.out BK355.out (by decide)) (fun _ h_ => h_.1)))) (bz_ HB.out)); have HO381 := Aside0.mk (Kd.S_lower (Kd.S_new' (Kd.S_new' (Kd.S_new' (Kd.S_new' (Kd.S_new' (Kd.S_new' (Kd.S_new' (Kd.S_new' (Kd.S_new' ho7 (Kd.S_lt (sm_ (Kd.S_types HO286.out BK355.out (by decide)) (fun _ h_ => h_.1)))) (Kd.S_lt (sm_ (Kd.S_types HO295.out BK355.out (by decide)) (fun _ h_ => h_.1)))) (Kd.S_lt (sm_ (Kd.S_types HO298.out BK355.out (by decide)) (fun _ h_ => h_.1)))) (Kd.S_lt (sm_ (Kd.S_types HO313.out BK355.out (by decide)) (fun _ h_ => h_.1)))) (Kd.S_lt (sm_ (Kd.S_types HO322.out BK355.out (by decide)) (fun _ h_ => h_.1)))) (Kd.S_lt (sm_ (Kd.S_types HO325.out BK355.out (by decide)) (fun _ h_ => h_.1)))) (Kd.S_lt (sm_ (Kd.S_types HO341.out BK355.out (by decide)) (fun _ h_ => h_.1)))) (Kd.S_lt (sm_ (Kd.S_types HO350.out BK355.out (by decide)) (fun _ h_ => h_.1)))) (Kd.S_lt (sm_ (Kd.S_types HO353.out BK355.out (by decide)) (fun _ h_ => h_.1)))) (bz_ HB.out)); replace HO286 := Aside0.mk (Kd.S_mono (Kd.S_told (Kd.S_told (Kd.S_told (Kd.S_old (sm_ (Kd.S_types HO286.out BK355.out (by decide)) (fun _ h_ => h_.1)) hb) (Kd.S_base ho3)) (Kd.S_base ho6)) (Kd.S_base ho7)) (fun _ h_ => h_.1)); replace HO295 := Aside0.mk (Kd.S_mono (Kd.S_told (Kd.S_told (Kd.S_told (Kd.S_old (sm_ (Kd.S_types HO295.out BK355.out (by decide)) (fun _ h_ => h_.1)) hb) (Kd.S_base ho3)) (Kd.S_base ho6)) (Kd.S_base ho7)) (fun _ h_ => h_.1)); replace HO298 := Aside0.mk (Kd.S_mono (Kd.S_told (Kd.S_told (Kd.S_told (Kd.S_old (sm_ (Kd.S_types HO298.out BK355.out (by decide)) (fun _ h_ => h_.1)) hb) (Kd.S_base ho3)) (Kd.S_base ho6)) (Kd.S_base ho7)) (fun _ h_ => h_.1)); replace HO313 := Aside0.mk (Kd.S_mono (Kd.S_told (Kd.S_told (Kd.S_told (Kd.S_old (sm_ (Kd.S_types HO313.out BK355.out (by decide)) (fun _ h_ => h_.1)) hb) (Kd.S_base ho3)) (Kd.S_base ho6)) (Kd.S_base ho7)) (fun _ h_ => h_.1)); replace HO322 := Aside0.mk (Kd.S_mono (Kd.S_told (Kd.S_told (Kd.S_told (Kd.S_old (sm_ (Kd.S_types HO322.out BK355.out (by decide)) (fun _ h_ => h_.1)) hb) (Kd.S_base ho3)) (Kd.S_base ho6)) (Kd.S_base ho7)) (fun _ h_ => h_.1)); replace HO325 := Aside0.mk (Kd.S_mono (Kd.S_told (Kd.S_told (Kd.S_told (Kd.S_old (sm_ (Kd.S_types HO325.out BK355.out (by decide)) (fun _ h_ => h_.1)) hb) (Kd.S_base ho3)) (Kd.S_base ho6)) (Kd.S_base ho7)) (fun _ h_ => h_.1)); replace HO341 := Aside0.mk (Kd.S_mono (Kd.S_told (Kd.S_told (Kd.S_told (Kd.S_old (sm_ (Kd.S_types HO341.out BK355.out (by decide)) (fun _ h_ => h_.1)) hb) (Kd.S_base ho3)) (Kd.S_base ho6)) (Kd.S_base ho7)) (fun _ h_ => h_.1)); replace HO350 := Aside0.mk (Kd.S_mono (Kd.S_told (Kd.S_told (Kd.S_told (Kd.S_old (sm_ (Kd.S_types HO350.out BK355.out (by decide)) (fun _ h_ => h_.1)) hb) (Kd.S_base ho3)) (Kd.S_base ho6)) (Kd.S_base ho7)) (fun _ h_ => h_.1)); replace HO353 := Aside0.mk (Kd.S_mono (Kd.S_told (Kd.S_told (Kd.S_told (Kd.S_old (sm_ (Kd.S_types HO353.out BK355.out (by decide)) (fun _ h_ => h_.1)) hb) (Kd.S_base ho3)) (Kd.S_base ho6)) (Kd.S_base ho7)) (fun _ h_ => h_.1)); replace BK269 := Aside0.mk (blk_below (bf_ BK269.out) hb); replace BK270 := Aside0.mk (blk_below (bf_ BK270.out) hb); replace BK355 := Aside0.mk (blk_below (g := gb355) (o := .cells #[.int .i64 t328, .int .i64 t329, .slice Ao65 t330.length co65, .slice Ao66 t333.length co66, .slice Ao67 t336.length co67, .slice Ao68 t339.length co68, .slice Ao69 t342.length co69, .slice Ao70 t345.length co70, .slice Ao71 t348.length co71, .slice Ao72 t351.length co72, .int .i64 t354] 55 (0, 0)) (by (with_reducible repeat (first | refine blk_drewN ?_ _ | refine blk_drew ?_ | refine blk_alloc ?_ _)); refine blk_put (cs := #[.int .i64 t328, .int .i64 t329, .slice Ao65 t330.length co65, .slice Ao66 t333.length co66, .slice Ao67 t336.length co67, .slice Ao68 t339.length co68, .slice Ao69 t342.length co69, .slice Ao70 t345.length co70, .slice Ao71 t348.length co71, .slice Ao72 t351.length co72, .int .i64 0]) ?_ 10 _ rfl; (with_reducible repeat (first | refine blk_drewN ?_ _ | refine blk_drew ?_ | refine blk_alloc ?_ _)); refine blk_put (cs := #[.int .i64 t328, .int .i64 t329, .slice Ao65 t330.length co65, .slice Ao66 t333.length co66, .slice Ao67 t336.length co67, .slice Ao68 t339.length co68, .slice Ao69 t342.length co69, .slice Ao70 t345.length co70, .slice Ao71 t348.length co71, .slice none 0 0, .int .i64 0]) ?_ 9 _ rfl; (with_reducible repeat (first | refine blk_drewN ?_ _ | refine blk_drew ?_ | refine blk_alloc ?_ _)); refine blk_put (cs := #[.int .i64 t328, .int .i64 t329, .slice Ao65 t330.length co65, .slice Ao66 t333.length co66, .slice Ao67 t336.length co67, .slice Ao68 t339.length co68, .slice Ao69 t342.length co69, .slice Ao70 t345.length co70, .slice none 0 0, .slice none 0 0, .int .i64 0]) ?_ 8 _ rfl; (with_reducible repeat (first | refine blk_drewN ?_ _ | refine blk_drew ?_ | refine blk_alloc ?_ _)); refine blk_put (cs := #[.int .i64 t328, .int .i64 t329, .slice Ao65 t330.length co65, .slice Ao66 t333.length co66, .slice Ao67 t336.length co67, .slice Ao68 t339.length co68, .slice Ao69 t342.length co69, .slice none 0 0, .slice none 0 0, .slice none 0 0, .int .i64 0]) ?_ 7 _ rfl; (with_reducible repeat (first | refine blk_drewN ?_ _ | refine blk_drew ?_ | refine blk_alloc ?_ _)); refine blk_put (cs := #[.int .i64 t328, .int .i64 t329, .slice Ao65 t330.length co65, .slice Ao66 t333.length co66, .slice Ao67 t336.length co67, .slice Ao68 t339.length co68, .slice none 0 0, .slice none 0 0, .slice none 0 0, .slice none 0 0, .int .i64 0]) ?_ 6 _ rfl; (with_reducible repeat (first | refine blk_drewN ?_ _ | refine blk_drew ?_ | refine blk_alloc ?_ _)); refine blk_put (cs := #[.int .i64 t328, .int .i64 t329, .slice Ao65 t330.length co65, .slice Ao66 t333.length co66, .slice Ao67 t336.length co67, .slice none 0 0, .slice none 0 0, .slice none 0 0, .slice none 0 0, .slice none 0 0, .int .i64 0]) ?_ 5 _ rfl; (with_reducible repeat (first | refine blk_drewN ?_ _ | refine blk_drew ?_ | refine blk_alloc ?_ _)); refine blk_put (cs := #[.int .i64 t328, .int .i64 t329, .slice Ao65 t330.length co65, .slice Ao66 t333.length co66, .slice none 0 0, .slice none 0 0, .slice none 0 0, .slice none 0 0, .slice none 0 0, .slice none 0 0, .int .i64 0]) ?_ 4 _ rfl; (with_reducible repeat (first | refine blk_drewN ?_ _ | refine blk_drew ?_ | refine blk_alloc ?_ _)); refine blk_put (cs := #[.int .i64 t328, .int .i64 t329, .slice Ao65 t330.length co65, .slice none 0 0, .slice none 0 0, .slice none 0 0, .slice none 0 0, .slice none 0 0, .slice none 0 0, .slice none 0 0, .int .i64 0]) ?_ 3 _ rfl; (with_reducible repeat (first | refine blk_drewN ?_ _ | refine blk_drew ?_ | refine blk_alloc ?_ _)); refine blk_put (cs := #[.int .i64 t328, .int .i64 t329, .slice none 0 0, .slice none 0 0, .slice none 0 0, .slice none 0 0, .slice none 0 0, .slice none 0 0, .slice none 0 0, .slice none 0 0, .int .i64 0]) ?_ 2 _ rfl; (with_reducible repeat (first | refine blk_drewN ?_ _ | refine blk_drew ?_ | refine blk_alloc ?_ _)); refine blk_put (cs := #[.int .i64 t328, .int .i64 0, .slice none 0 0, .slice none 0 0, .slice none 0 0, .slice none 0 0, .slice none 0 0, .slice none 0 0, .slice none 0 0, .slice none 0 0, .int .i64 0]) ?_ 1 _ rfl; (with_reducible repeat (first | refine blk_drewN ?_ _ | refine blk_drew ?_ | refine blk_alloc ?_ _)); refine blk_put (cs := #[.int .i64 0, .int .i64 0, .slice none 0 0, .slice none 0 0, .slice none 0 0, .slice none 0 0, .slice none 0 0, .slice none 0 0, .slice none 0 0, .slice none 0 0, .int .i64 0]) ?_ 0 _ rfl; (with_reducible repeat (first | refine blk_drewN ?_ _ | refine blk_drew ?_ | refine blk_alloc ?_ _)); exact BK355.out) hb); replace HB := Aside0.mk (bs_ HB.out hb); (try clear hb); (try clear ho0); (try clear ho1); (try clear ho2); (try clear ho3); (try clear ho4); (try clear ho5); (try clear ho6); (try clear ho7)) | ((with_reducible refine gate_dst (N := 8) rfl ?_); refine box_event ?hg (N := 8) ?hd (cs := #[.int .i64 0, .int .i64 0, .slice none 0 0, .slice none 0 0, .slice none 0 0, .slice none 0 0, .slice none 0 0, .slice none 0 0, .slice none 0 0, .slice none 0 0, .int .i64 0]) (t := 55) ?hr ?_; (case hd => rfl); (case hg => rfl); (case hr => first | (go_simp; done) | (go_simp; rfl)); intro gb383 hg w75 hbox hb; replace HO277 := Aside0.mk (Kd.R_below (ra_ HO277.out) hb); replace HO280 := Aside0.mk (Kd.R_below (ra_ HO280.out) hb); replace HO283 := Aside0.mk (Kd.R_below (ra_ HO283.out) hb); replace HO286 := Aside0.mk (Kd.S_below (sa_ HO286.out) hb); replace HO289 := Aside0.mk (Kd.R_below (ra_ HO289.out) hb); replace HO292 := Aside0.mk (Kd.R_below (ra_ HO292.out) hb); replace HO295 := Aside0.mk (Kd.S_below (sa_ HO295.out) hb); replace HO298 := Aside0.mk (Kd.S_below (sa_ HO298.out) hb); replace HO304 := Aside0.mk (Kd.R_below (ra_ HO304.out) hb); replace HO307 := Aside0.mk (Kd.R_below (ra_ HO307.out) hb); replace HO310 := Aside0.mk (Kd.R_below (ra_ HO310.out) hb); replace HO313 := Aside0.mk (Kd.S_below (sa_ HO313.out) hb); replace HO316 := Aside0.mk (Kd.R_below (ra_ HO316.out) hb); replace HO319 := Aside0.mk (Kd.R_below (ra_ HO319.out) hb); replace HO322 := Aside0.mk (Kd.S_below (sa_ HO322.out) hb); replace HO325 := Aside0.mk (Kd.S_below (sa_ HO325.out) hb); replace HO332 := Aside0.mk (Kd.R_below (ra_ HO332.out) hb); replace HO335 := Aside0.mk (Kd.R_below (ra_ HO335.out) hb); replace HO338 := Aside0.mk (Kd.R_below (ra_ HO338.out) hb); replace HO341 := Aside0.mk (Kd.S_below (sa_ HO341.out) hb); replace HO344 := Aside0.mk (Kd.R_below (ra_ HO344.out) hb); replace HO347 := Aside0.mk (Kd.R_below (ra_ HO347.out) hb); replace HO350 := Aside0.mk (Kd.S_below (sa_ HO350.out) hb); replace HO353 := Aside0.mk (Kd.S_below (sa_ HO353.out) hb); replace HO360 := Aside0.mk (Kd.R_below (ra_ HO360.out) hb); replace HO363 := Aside0.mk (Kd.R_below (ra_ HO363.out) hb); replace HO366 := Aside0.mk (Kd.R_below (ra_ HO366.out) hb); replace HO369 := Aside0.mk (Kd.S_below (sa_ HO369.out) hb); replace HO372 := Aside0.mk (Kd.R_below (ra_ HO372.out) hb); replace HO375 := Aside0.mk (Kd.R_below (ra_ HO375.out) hb); replace HO378 := Aside0.mk (Kd.S_below (sa_ HO378.out) hb); replace HO381 := Aside0.mk (Kd.S_below (sa_ HO381.out) hb); have BK383 := Aside0.mk (hbox); have GW383 := Aside0.mk ((by rw [hg]; exact (bz_ HB.out) : w.heap.size ≤ gb383)); have GE383 := Aside0.mk ((by rw [hg]; exact (bz_ HB.out) : w.heap.size ≤ gb383)); replace HB := Aside0.mk (bs_ HB.out hb); have NB269_383 := Aside0.mk ((by rw [hg]; exact Nat.ne_of_lt (bl_ BK269.out) : gb269 ≠ gb383)); have NB383_269 := Aside0.mk ((by rw [hg]; exact Nat.ne_of_gt (bl_ BK269.out) : gb383 ≠ gb269)); replace BK269 := Aside0.mk (bk_ BK269.out hb); have NB270_383 := Aside0.mk ((by rw [hg]; exact Nat.ne_of_lt (bl_ BK270.out) : gb270 ≠ gb383)); have NB383_270 := Aside0.mk ((by rw [hg]; exact Nat.ne_of_gt (bl_ BK270.out) : gb383 ≠ gb270)); replace BK270 := Aside0.mk (bk_ BK270.out hb); have NB355_383 := Aside0.mk ((by rw [hg]; exact Nat.ne_of_lt (bl_ BK355.out) : gb355 ≠ gb383)); have NB383_355 := Aside0.mk ((by rw [hg]; exact Nat.ne_of_gt (bl_ BK355.out) : gb383 ≠ gb355)); replace BK355 := Aside0.mk (bk_ BK355.out hb); clear hb hbox hg; have hnb76 := NB383_269.out; have hnc76 := NB269_383.out; have hnb77 := NB383_270.out; have hnc77 := NB270_383.out; have hnb78 := NB383_355.out; have hnc78 := NB355_383.out; obtain ⟨hcz79_0, hcz79_1, hcz79_2, hcz79_3, hcz79_4, hcz79_5, hcz79_6, hcz79_7, hcz79_8, hcz79_9, hcz79_10, hfz79_0, hfz79_1, hfz79_2, hfz79_3, hfz79_4, hfz79_5, hfz79_6, hfz79_7, hfz79_8, hfz79_9, hfz79_10⟩ := cz11_ BK383.out; obtain ⟨Ao80, co80, eo80⟩ := Kd.R_slice HO360.out; subst eo80; obtain ⟨Ao81, co81, eo81⟩ := Kd.R_slice HO363.out; subst eo81; obtain ⟨Ao82, co82, eo82⟩ := Kd.R_slice HO366.out; subst eo82; obtain ⟨Ao83, co83, eo83⟩ := Kd.S_slice HO369.out; subst eo83; obtain ⟨Ao84, co84, eo84⟩ := Kd.R_slice HO372.out; subst eo84; obtain ⟨Ao85, co85, eo85⟩ := Kd.R_slice HO375.out; subst eo85; obtain ⟨Ao86, co86, eo86⟩ := Kd.S_slice HO378.out; subst eo86; obtain ⟨Ao87, co87, eo87⟩ := Kd.S_slice HO381.out; subst eo87; obtain ⟨hcz88_0, hcz88_1, hcz88_2, hcz88_3, hcz88_4, hcz88_5, hcz88_6, hcz88_7, hcz88_8, hcz88_9, hcz88_10, hfz88_0, hfz88_1, hfz88_2, hfz88_3, hfz88_4, hfz88_5, hfz88_6, hfz88_7, hfz88_8, hfz88_9, hfz88_10⟩ := cz11_ BK355.out) | ((with_reducible refine gate_callee (f := 51) rfl ?_); refine gm_ (some 31) Try.func51 #[.agg #[.int .i64 t328, .int .i64 t329, .slice Ao65 t330.length co65, .slice Ao66 t333.length co66, .slice Ao67 t336.length co67, .slice Ao68 t339.length co68, .slice Ao69 t342.length co69, .slice Ao70 t345.length co70, .slice Ao71 t348.length co71, .slice Ao72 t351.length co72, .int .i64 t354], .agg #[.int .i64 t356, .int .i64 t357, .slice Ao80 t358.length co80, .slice Ao81 t361.length co81, .slice Ao82 t364.length co82, .slice Ao83 t367.length co83, .slice Ao84 t370.length co84, .slice Ao85 t373.length co85, .slice Ao86 t376.length co86, .slice Ao87 t379.length co87, .int .i64 t382]] rfl ?_; (with_reducible refine (impl_SameNet.calls k t328 t329 _ _ t330 _ _ t333 _ _ t336 _ _ t339 _ _ t342 _ _ t345 _ _ t348 _ _ t351 t354 t356 t357 _ _ t358 _ _ t361 _ _ t364 _ _ t367 _ _ t370 _ _ t373 _ _ t376 _ _ t379 t382 t384 _ ?side1 ?side2 ?side3 ?side4 ?side5 ?side6 ?side7 ?side8 ?side9 ?side10 ?side11 ?side12 ?side13 ?side14 ?side15 ?side16 ?side17 ?side18 ?side19 ?side20 ?side21 ?side22 ?side23 ?side24 ?side25 ?side26 ?side27 ?side28 ?side29 ?side30 ?side31 ?side32 A24.out).mono ?_); (case side1 => refine (Kd.R_reads' (e := 3) (base := w.heap.size) (ok := fun k_ => ((((((((((((((((some k_ ≠ (.slice Ao66 t333.length co66 : Value).ownBlock ∧ (some k_ ≠ (.slice Ao67 t336.length co67 : Value).ownBlock ∧ (some k_ ≠ (.slice Ao69 t342.length co69 : Value).ownBlock ∧ some k_ ≠ (.slice Ao70 t345.length co70 : Value).ownBlock))) ∧ some k_ ≠ (.slice Ao42 t275.length co42 : Value).ownBlock) ∧ some k_ ≠ (.slice Ao43 t278.length co43 : Value).ownBlock) ∧ some k_ ≠ (.slice Ao44 t281.length co44 : Value).ownBlock) ∧ some k_ ≠ (.slice Ao46 t287.length co46 : Value).ownBlock) ∧ some k_ ≠ (.slice Ao47 t290.length co47 : Value).ownBlock) ∧ some k_ ≠ (.slice Ao50 t302.length co50 : Value).ownBlock) ∧ some k_ ≠ (.slice Ao51 t305.length co51 : Value).ownBlock) ∧ some k_ ≠ (.slice Ao52 t308.length co52 : Value).ownBlock) ∧ some k_ ≠ (.slice Ao54 t314.length co54 : Value).ownBlock) ∧ some k_ ≠ (.slice Ao55 t317.length co55 : Value).ownBlock) ∧ some k_ ≠ (.slice Ao80 t358.length co80 : Value).ownBlock) ∧ some k_ ≠ (.slice Ao81 t361.length co81 : Value).ownBlock) ∧ some k_ ≠ (.slice Ao82 t364.length co82 : Value).ownBlock) ∧ some k_ ≠ (.slice Ao84 t370.length co84 : Value).ownBlock) ∧ some k_ ≠ (.slice Ao85 t373.length co85 : Value).ownBlock)) (n := t330.length) (c := co65) ?_).2.2; exact (rm_ (Kd.R_types HO332.out BK383.out (by decide)) (fun _ h_ => h_.1))); (case side2 => exact (Kd.R_reads' HO332.out).2.1); (case side3 => refine (Kd.R_reads' (e := 3) (base := w.heap.size) (ok := fun k_ => ((((((((((((((((some k_ ≠ (.slice Ao65 t330.length co65 : Value).ownBlock ∧ (some k_ ≠ (.slice Ao67 t336.length co67 : Value).ownBlock ∧ (some k_ ≠ (.slice Ao69 t342.length co69 : Value).ownBlock ∧ some k_ ≠ (.slice Ao70 t345.length co70 : Value).ownBlock))) ∧ some k_ ≠ (.slice Ao42 t275.length co42 : Value).ownBlock) ∧ some k_ ≠ (.slice Ao43 t278.length co43 : Value).ownBlock) ∧ some k_ ≠ (.slice Ao44 t281.length co44 : Value).ownBlock) ∧ some k_ ≠ (.slice Ao46 t287.length co46 : Value).ownBlock) ∧ some k_ ≠ (.slice Ao47 t290.length co47 : Value).ownBlock) ∧ some k_ ≠ (.slice Ao50 t302.length co50 : Value).ownBlock) ∧ some k_ ≠ (.slice Ao51 t305.length co51 : Value).ownBlock) ∧ some k_ ≠ (.slice Ao52 t308.length co52 : Value).ownBlock) ∧ some k_ ≠ (.slice Ao54 t314.length co54 : Value).ownBlock) ∧ some k_ ≠ (.slice Ao55 t317.length co55 : Value).ownBlock) ∧ some k_ ≠ (.slice Ao80 t358.length co80 : Value).ownBlock) ∧ some k_ ≠ (.slice Ao81 t361.length co81 : Value).ownBlock) ∧ some k_ ≠ (.slice Ao82 t364.length co82 : Value).ownBlock) ∧ some k_ ≠ (.slice Ao84 t370.length co84 : Value).ownBlock) ∧ some k_ ≠ (.slice Ao85 t373.length co85 : Value).ownBlock)) (n := t333.length) (c := co66) ?_).2.2; exact (rm_ (Kd.R_types HO335.out BK383.out (by decide)) (fun _ h_ => h_.1))); (case side4 => exact (Kd.R_reads' HO335.out).2.1); (case side5 => refine (Kd.R_reads' (e := 3) (base := w.heap.size) (ok := fun k_ => ((((((((((((((((some k_ ≠ (.slice Ao65 t330.length co65 : Value).ownBlock ∧ (some k_ ≠ (.slice Ao66 t333.length co66 : Value).ownBlock ∧ (some k_ ≠ (.slice Ao69 t342.length co69 : Value).ownBlock ∧ some k_ ≠ (.slice Ao70 t345.length co70 : Value).ownBlock))) ∧ some k_ ≠ (.slice Ao42 t275.length co42 : Value).ownBlock) ∧ some k_ ≠ (.slice Ao43 t278.length co43 : Value).ownBlock) ∧ some k_ ≠ (.slice Ao44 t281.length co44 : Value).ownBlock) ∧ some k_ ≠ (.slice Ao46 t287.length co46 : Value).ownBlock) ∧ some k_ ≠ (.slice Ao47 t290.length co47 : Value).ownBlock) ∧ some k_ ≠ (.slice Ao50 t302.length co50 : Value).ownBlock) ∧ some k_ ≠ (.slice Ao51 t305.length co51 : Value).ownBlock) ∧ some k_ ≠ (.slice Ao52 t308.length co52 : Value).ownBlock) ∧ some k_ ≠ (.slice Ao54 t314.length co54 : Value).ownBlock) ∧ some k_ ≠ (.slice Ao55 t317.length co55 : Value).ownBlock) ∧ some k_ ≠ (.slice Ao80 t358.length co80 : Value).ownBlock) ∧ some k_ ≠ (.slice Ao81 t361.length co81 : Value).ownBlock) ∧ some k_ ≠ (.slice Ao82 t364.length co82 : Value).ownBlock) ∧ some k_ ≠ (.slice Ao84 t370.length co84 : Value).ownBlock) ∧ some k_ ≠ (.slice Ao85 t373.length co85 : Value).ownBlock)) (n := t336.length) (c := co67) ?_).2.2; exact (rm_ (Kd.R_types HO338.out BK383.out (by decide)) (fun _ h_ => h_.1))); (case side6 => exact (Kd.R_reads' HO338.out).2.1); (case side7 => refine (Kd.S_reads' (e := 118) (base := w.heap.size) (ok := fun k_ => ((((((((((some k_ ≠ (.slice Ao71 t348.length co71 : Value).ownBlock ∧ some k_ ≠ (.slice Ao72 t351.length co72 : Value).ownBlock) ∧ some k_ ≠ (.slice Ao45 t284.length co45 : Value).ownBlock) ∧ some k_ ≠ (.slice Ao48 t293.length co48 : Value).ownBlock) ∧ some k_ ≠ (.slice Ao49 t296.length co49 : Value).ownBlock) ∧ some k_ ≠ (.slice Ao53 t311.length co53 : Value).ownBlock) ∧ some k_ ≠ (.slice Ao56 t320.length co56 : Value).ownBlock) ∧ some k_ ≠ (.slice Ao57 t323.length co57 : Value).ownBlock) ∧ some k_ ≠ (.slice Ao83 t367.length co83 : Value).ownBlock) ∧ some k_ ≠ (.slice Ao86 t376.length co86 : Value).ownBlock) ∧ some k_ ≠ (.slice Ao87 t379.length co87 : Value).ownBlock)) (n := t339.length) (c := co68) ?_).2.2; exact (sm_ (Kd.S_types HO341.out BK383.out (by decide)) (fun _ h_ => h_.1))); (case side8 => exact (Kd.S_reads' HO341.out).2.1); (case side9 => refine (Kd.R_reads' (e := 3) (base := w.heap.size) (ok := fun k_ => ((((((((((((((((some k_ ≠ (.slice Ao65 t330.length co65 : Value).ownBlock ∧ (some k_ ≠ (.slice Ao66 t333.length co66 : Value).ownBlock ∧ (some k_ ≠ (.slice Ao67 t336.length co67 : Value).ownBlock ∧ some k_ ≠ (.slice Ao70 t345.length co70 : Value).ownBlock))) ∧ some k_ ≠ (.slice Ao42 t275.length co42 : Value).ownBlock) ∧ some k_ ≠ (.slice Ao43 t278.length co43 : Value).ownBlock) ∧ some k_ ≠ (.slice Ao44 t281.length co44 : Value).ownBlock) ∧ some k_ ≠ (.slice Ao46 t287.length co46 : Value).ownBlock) ∧ some k_ ≠ (.slice Ao47 t290.length co47 : Value).ownBlock) ∧ some k_ ≠ (.slice Ao50 t302.length co50 : Value).ownBlock) ∧ some k_ ≠ (.slice Ao51 t305.length co51 : Value).ownBlock) ∧ some k_ ≠ (.slice Ao52 t308.length co52 : Value).ownBlock) ∧ some k_ ≠ (.slice Ao54 t314.length co54 : Value).ownBlock) ∧ some k_ ≠ (.slice Ao55 t317.length co55 : Value).ownBlock) ∧ some k_ ≠ (.slice Ao80 t358.length co80 : Value).ownBlock) ∧ some k_ ≠ (.slice Ao81 t361.length co81 : Value).ownBlock) ∧ some k_ ≠ (.slice Ao82 t364.length co82 : Value).ownBlock) ∧ some k_ ≠ (.slice Ao84 t370.length co84 : Value).ownBlock) ∧ some k_ ≠ (.slice Ao85 t373.length co85 : Value).ownBlock)) (n := t342.length) (c := co69) ?_).2.2; exact (rm_ (Kd.R_types HO344.out BK383.out (by decide)) (fun _ h_ => h_.1))); (case side10 => exact (Kd.R_reads' HO344.out).2.1); (case side11 => refine (Kd.R_reads' (e := 3) (base := w.heap.size) (ok := fun k_ => ((((((((((((((((some k_ ≠ (.slice Ao65 t330.length co65 : Value).ownBlock ∧ (some k_ ≠ (.slice Ao66 t333.length co66 : Value).ownBlock ∧ (some k_ ≠ (.slice Ao67 t336.length co67 : Value).ownBlock ∧ some k_ ≠ (.slice Ao69 t342.length co69 : Value).ownBlock))) ∧ some k_ ≠ (.slice Ao42 t275.length co42 : Value).ownBlock) ∧ some k_ ≠ (.slice Ao43 t278.length co43 : Value).ownBlock) ∧ some k_ ≠ (.slice Ao44 t281.length co44 : Value).ownBlock) ∧ some k_ ≠ (.slice Ao46 t287.length co46 : Value).ownBlock) ∧ some k_ ≠ (.slice Ao47 t290.length co47 : Value).ownBlock) ∧ some k_ ≠ (.slice Ao50 t302.length co50 : Value).ownBlock) ∧ some k_ ≠ (.slice Ao51 t305.length co51 : Value).ownBlock) ∧ some k_ ≠ (.slice Ao52 t308.length co52 : Value).ownBlock) ∧ some k_ ≠ (.slice Ao54 t314.length co54 : Value).ownBlock) ∧ some k_ ≠ (.slice Ao55 t317.length co55 : Value).ownBlock) ∧ some k_ ≠ (.slice Ao80 t358.length co80 : Value).ownBlock) ∧ some k_ ≠ (.slice Ao81 t361.length co81 : Value).ownBlock) ∧ some k_ ≠ (.slice Ao82 t364.length co82 : Value).ownBlock) ∧ some k_ ≠ (.slice Ao84 t370.length co84 : Value).ownBlock) ∧ some k_ ≠ (.slice Ao85 t373.length co85 : Value).ownBlock)) (n := t345.length) (c := co70) ?_).2.2; exact (rm_ (Kd.R_types HO347.out BK383.out (by decide)) (fun _ h_ => h_.1))); (case side12 => exact (Kd.R_reads' HO347.out).2.1); (case side13 => refine (Kd.S_reads' (e := 118) (base := w.heap.size) (ok := fun k_ => ((((((((((some k_ ≠ (.slice Ao68 t339.length co68 : Value).ownBlock ∧ some k_ ≠ (.slice Ao72 t351.length co72 : Value).ownBlock) ∧ some k_ ≠ (.slice Ao45 t284.length co45 : Value).ownBlock) ∧ some k_ ≠ (.slice Ao48 t293.length co48 : Value).ownBlock) ∧ some k_ ≠ (.slice Ao49 t296.length co49 : Value).ownBlock) ∧ some k_ ≠ (.slice Ao53 t311.length co53 : Value).ownBlock) ∧ some k_ ≠ (.slice Ao56 t320.length co56 : Value).ownBlock) ∧ some k_ ≠ (.slice Ao57 t323.length co57 : Value).ownBlock) ∧ some k_ ≠ (.slice Ao83 t367.length co83 : Value).ownBlock) ∧ some k_ ≠ (.slice Ao86 t376.length co86 : Value).ownBlock) ∧ some k_ ≠ (.slice Ao87 t379.length co87 : Value).ownBlock)) (n := t348.length) (c := co71) ?_).2.2; exact (sm_ (Kd.S_types HO350.out BK383.out (by decide)) (fun _ h_ => h_.1))); (case side14 => exact (Kd.S_reads' HO350.out).2.1); (case side15 => refine (Kd.S_reads' (e := 118) (base := w.heap.size) (ok := fun k_ => ((((((((((some k_ ≠ (.slice Ao68 t339.length co68 : Value).ownBlock ∧ some k_ ≠ (.slice Ao71 t348.length co71 : Value).ownBlock) ∧ some k_ ≠ (.slice Ao45 t284.length co45 : Value).ownBlock) ∧ some k_ ≠ (.slice Ao48 t293.length co48 : Value).ownBlock) ∧ some k_ ≠ (.slice Ao49 t296.length co49 : Value).ownBlock) ∧ some k_ ≠ (.slice Ao53 t311.length co53 : Value).ownBlock) ∧ some k_ ≠ (.slice Ao56 t320.length co56 : Value).ownBlock) ∧ some k_ ≠ (.slice Ao57 t323.length co57 : Value).ownBlock) ∧ some k_ ≠ (.slice Ao83 t367.length co83 : Value).ownBlock) ∧ some k_ ≠ (.slice Ao86 t376.length co86 : Value).ownBlock) ∧ some k_ ≠ (.slice Ao87 t379.length co87 : Value).ownBlock)) (n := t351.length) (c := co72) ?_).2.2; exact (sm_ (Kd.S_types HO353.out BK383.out (by decide)) (fun _ h_ => h_.1))); (case side16 => exact (Kd.S_reads' HO353.out).2.1); (case side17 => refine (Kd.R_reads' (e := 3) (base := w.heap.size) (ok := fun k_ => ((((((((((((((((some k_ ≠ (.slice Ao81 t361.length co81 : Value).ownBlock ∧ (some k_ ≠ (.slice Ao82 t364.length co82 : Value).ownBlock ∧ (some k_ ≠ (.slice Ao84 t370.length co84 : Value).ownBlock ∧ some k_ ≠ (.slice Ao85 t373.length co85 : Value).ownBlock))) ∧ some k_ ≠ (.slice Ao42 t275.length co42 : Value).ownBlock) ∧ some k_ ≠ (.slice Ao43 t278.length co43 : Value).ownBlock) ∧ some k_ ≠ (.slice Ao44 t281.length co44 : Value).ownBlock) ∧ some k_ ≠ (.slice Ao46 t287.length co46 : Value).ownBlock) ∧ some k_ ≠ (.slice Ao47 t290.length co47 : Value).ownBlock) ∧ some k_ ≠ (.slice Ao50 t302.length co50 : Value).ownBlock) ∧ some k_ ≠ (.slice Ao51 t305.length co51 : Value).ownBlock) ∧ some k_ ≠ (.slice Ao52 t308.length co52 : Value).ownBlock) ∧ some k_ ≠ (.slice Ao54 t314.length co54 : Value).ownBlock) ∧ some k_ ≠ (.slice Ao55 t317.length co55 : Value).ownBlock) ∧ some k_ ≠ (.slice Ao65 t330.length co65 : Value).ownBlock) ∧ some k_ ≠ (.slice Ao66 t333.length co66 : Value).ownBlock) ∧ some k_ ≠ (.slice Ao67 t336.length co67 : Value).ownBlock) ∧ some k_ ≠ (.slice Ao69 t342.length co69 : Value).ownBlock) ∧ some k_ ≠ (.slice Ao70 t345.length co70 : Value).ownBlock)) (n := t358.length) (c := co80) ?_).2.2; exact (rm_ (Kd.R_types HO360.out BK383.out (by decide)) (fun _ h_ => h_.1))); (case side18 => exact (Kd.R_reads' HO360.out).2.1); (case side19 => refine (Kd.R_reads' (e := 3) (base := w.heap.size) (ok := fun k_ => ((((((((((((((((some k_ ≠ (.slice Ao80 t358.length co80 : Value).ownBlock ∧ (some k_ ≠ (.slice Ao82 t364.length co82 : Value).ownBlock ∧ (some k_ ≠ (.slice Ao84 t370.length co84 : Value).ownBlock ∧ some k_ ≠ (.slice Ao85 t373.length co85 : Value).ownBlock))) ∧ some k_ ≠ (.slice Ao42 t275.length co42 : Value).ownBlock) ∧ some k_ ≠ (.slice Ao43 t278.length co43 : Value).ownBlock) ∧ some k_ ≠ (.slice Ao44 t281.length co44 : Value).ownBlock) ∧ some k_ ≠ (.slice Ao46 t287.length co46 : Value).ownBlock) ∧ some k_ ≠ (.slice Ao47 t290.length co47 : Value).ownBlock) ∧ some k_ ≠ (.slice Ao50 t302.length co50 : Value).ownBlock) ∧ some k_ ≠ (.slice Ao51 t305.length co51 : Value).ownBlock) ∧ some k_ ≠ (.slice Ao52 t308.length co52 : Value).ownBlock) ∧ some k_ ≠ (.slice Ao54 t314.length co54 : Value).ownBlock) ∧ some k_ ≠ (.slice Ao55 t317.length co55 : Value).ownBlock) ∧ some k_ ≠ (.slice Ao65 t330.length co65 : Value).ownBlock) ∧ some k_ ≠ (.slice Ao66 t333.length co66 : Value).ownBlock) ∧ some k_ ≠ (.slice Ao67 t336.length co67 : Value).ownBlock) ∧ some k_ ≠ (.slice Ao69 t342.length co69 : Value).ownBlock) ∧ some k_ ≠ (.slice Ao70 t345.length co70 : Value).ownBlock)) (n := t361.length) (c := co81) ?_).2.2; exact (rm_ (Kd.R_types HO363.out BK383.out (by decide)) (fun _ h_ => h_.1))); (case side20 => exact (Kd.R_reads' HO363.out).2.1); (case side21 => refine (Kd.R_reads' (e := 3) (base := w.heap.size) (ok := fun k_ => ((((((((((((((((some k_ ≠ (.slice Ao80 t358.length co80 : Value).ownBlock ∧ (some k_ ≠ (.slice Ao81 t361.length co81 : Value).ownBlock ∧ (some k_ ≠ (.slice Ao84 t370.length co84 : Value).ownBlock ∧ some k_ ≠ (.slice Ao85 t373.length co85 : Value).ownBlock))) ∧ some k_ ≠ (.slice Ao42 t275.length co42 : Value).ownBlock) ∧ some k_ ≠ (.slice Ao43 t278.length co43 : Value).ownBlock) ∧ some k_ ≠ (.slice Ao44 t281.length co44 : Value).ownBlock) ∧ some k_ ≠ (.slice Ao46 t287.length co46 : Value).ownBlock) ∧ some k_ ≠ (.slice Ao47 t290.length co47 : Value).ownBlock) ∧ some k_ ≠ (.slice Ao50 t302.length co50 : Value).ownBlock) ∧ some k_ ≠ (.slice Ao51 t305.length co51 : Value).ownBlock) ∧ some k_ ≠ (.slice Ao52 t308.length co52 : Value).ownBlock) ∧ some k_ ≠ (.slice Ao54 t314.length co54 : Value).ownBlock) ∧ some k_ ≠ (.slice Ao55 t317.length co55 : Value).ownBlock) ∧ some k_ ≠ (.slice Ao65 t330.length co65 : Value).ownBlock) ∧ some k_ ≠ (.slice Ao66 t333.length co66 : Value).ownBlock) ∧ some k_ ≠ (.slice Ao67 t336.length co67 : Value).ownBlock) ∧ some k_ ≠ (.slice Ao69 t342.length co69 : Value).ownBlock) ∧ some k_ ≠ (.slice Ao70 t345.length co70 : Value).ownBlock)) (n := t364.length) (c := co82) ?_).2.2; exact (rm_ (Kd.R_types HO366.out BK383.out (by decide)) (fun _ h_ => h_.1))); (case side22 => exact (Kd.R_reads' HO366.out).2.1); (case side23 => refine (Kd.S_reads' (e := 118) (base := w.heap.size) (ok := fun k_ => ((((((((((some k_ ≠ (.slice Ao86 t376.length co86 : Value).ownBlock ∧ some k_ ≠ (.slice Ao87 t379.length co87 : Value).ownBlock) ∧ some k_ ≠ (.slice Ao45 t284.length co45 : Value).ownBlock) ∧ some k_ ≠ (.slice Ao48 t293.length co48 : Value).ownBlock) ∧ some k_ ≠ (.slice Ao49 t296.length co49 : Value).ownBlock) ∧ some k_ ≠ (.slice Ao53 t311.length co53 : Value).ownBlock) ∧ some k_ ≠ (.slice Ao56 t320.length co56 : Value).ownBlock) ∧ some k_ ≠ (.slice Ao57 t323.length co57 : Value).ownBlock) ∧ some k_ ≠ (.slice Ao68 t339.length co68 : Value).ownBlock) ∧ some k_ ≠ (.slice Ao71 t348.length co71 : Value).ownBlock) ∧ some k_ ≠ (.slice Ao72 t351.length co72 : Value).ownBlock)) (n := t367.length) (c := co83) ?_).2.2; exact (sm_ (Kd.S_types HO369.out BK383.out (by decide)) (fun _ h_ => h_.1))); (case side24 => exact (Kd.S_reads' HO369.out).2.1); (case side25 => refine (Kd.R_reads' (e := 3) (base := w.heap.size) (ok := fun k_ => ((((((((((((((((some k_ ≠ (.slice Ao80 t358.length co80 : Value).ownBlock ∧ (some k_ ≠ (.slice Ao81 t361.length co81 : Value).ownBlock ∧ (some k_ ≠ (.slice Ao82 t364.length co82 : Value).ownBlock ∧ some k_ ≠ (.slice Ao85 t373.length co85 : Value).ownBlock))) ∧ some k_ ≠ (.slice Ao42 t275.length co42 : Value).ownBlock) ∧ some k_ ≠ (.slice Ao43 t278.length co43 : Value).ownBlock) ∧ some k_ ≠ (.slice Ao44 t281.length co44 : Value).ownBlock) ∧ some k_ ≠ (.slice Ao46 t287.length co46 : Value).ownBlock) ∧ some k_ ≠ (.slice Ao47 t290.length co47 : Value).ownBlock) ∧ some k_ ≠ (.slice Ao50 t302.length co50 : Value).ownBlock) ∧ some k_ ≠ (.slice Ao51 t305.length co51 : Value).ownBlock) ∧ some k_ ≠ (.slice Ao52 t308.length co52 : Value).ownBlock) ∧ some k_ ≠ (.slice Ao54 t314.length co54 : Value).ownBlock) ∧ some k_ ≠ (.slice Ao55 t317.length co55 : Value).ownBlock) ∧ some k_ ≠ (.slice Ao65 t330.length co65 : Value).ownBlock) ∧ some k_ ≠ (.slice Ao66 t333.length co66 : Value).ownBlock) ∧ some k_ ≠ (.slice Ao67 t336.length co67 : Value).ownBlock) ∧ some k_ ≠ (.slice Ao69 t342.length co69 : Value).ownBlock) ∧ some k_ ≠ (.slice Ao70 t345.length co70 : Value).ownBlock)) (n := t370.length) (c := co84) ?_).2.2; exact (rm_ (Kd.R_types HO372.out BK383.out (by decide)) (fun _ h_ => h_.1))); (case side26 => exact (Kd.R_reads' HO372.out).2.1); (case side27 => refine (Kd.R_reads' (e := 3) (base := w.heap.size) (ok := fun k_ => ((((((((((((((((some k_ ≠ (.slice Ao80 t358.length co80 : Value).ownBlock ∧ (some k_ ≠ (.slice Ao81 t361.length co81 : Value).ownBlock ∧ (some k_ ≠ (.slice Ao82 t364.length co82 : Value).ownBlock ∧ some k_ ≠ (.slice Ao84 t370.length co84 : Value).ownBlock))) ∧ some k_ ≠ (.slice Ao42 t275.length co42 : Value).ownBlock) ∧ some k_ ≠ (.slice Ao43 t278.length co43 : Value).ownBlock) ∧ some k_ ≠ (.slice Ao44 t281.length co44 : Value).ownBlock) ∧ some k_ ≠ (.slice Ao46 t287.length co46 : Value).ownBlock) ∧ some k_ ≠ (.slice Ao47 t290.length co47 : Value).ownBlock) ∧ some k_ ≠ (.slice Ao50 t302.length co50 : Value).ownBlock) ∧ some k_ ≠ (.slice Ao51 t305.length co51 : Value).ownBlock) ∧ some k_ ≠ (.slice Ao52 t308.length co52 : Value).ownBlock) ∧ some k_ ≠ (.slice Ao54 t314.length co54 : Value).ownBlock) ∧ some k_ ≠ (.slice Ao55 t317.length co55 : Value).ownBlock) ∧ some k_ ≠ (.slice Ao65 t330.length co65 : Value).ownBlock) ∧ some k_ ≠ (.slice Ao66 t333.length co66 : Value).ownBlock) ∧ some k_ ≠ (.slice Ao67 t336.length co67 : Value).ownBlock) ∧ some k_ ≠ (.slice Ao69 t342.length co69 : Value).ownBlock) ∧ some k_ ≠ (.slice Ao70 t345.length co70 : Value).ownBlock)) (n := t373.length) (c := co85) ?_).2.2; exact (rm_ (Kd.R_types HO375.out BK383.out (by decide)) (fun _ h_ => h_.1))); (case side28 => exact (Kd.R_reads' HO375.out).2.1); (case side29 => refine (Kd.S_reads' (e := 118) (base := w.heap.size) (ok := fun k_ => ((((((((((some k_ ≠ (.slice Ao83 t367.length co83 : Value).ownBlock ∧ some k_ ≠ (.slice Ao87 t379.length co87 : Value).ownBlock) ∧ some k_ ≠ (.slice Ao45 t284.length co45 : Value).ownBlock) ∧ some k_ ≠ (.slice Ao48 t293.length co48 : Value).ownBlock) ∧ some k_ ≠ (.slice Ao49 t296.length co49 : Value).ownBlock) ∧ some k_ ≠ (.slice Ao53 t311.length co53 : Value).ownBlock) ∧ some k_ ≠ (.slice Ao56 t320.length co56 : Value).ownBlock) ∧ some k_ ≠ (.slice Ao57 t323.length co57 : Value).ownBlock) ∧ some k_ ≠ (.slice Ao68 t339.length co68 : Value).ownBlock) ∧ some k_ ≠ (.slice Ao71 t348.length co71 : Value).ownBlock) ∧ some k_ ≠ (.slice Ao72 t351.length co72 : Value).ownBlock)) (n := t376.length) (c := co86) ?_).2.2; exact (sm_ (Kd.S_types HO378.out BK383.out (by decide)) (fun _ h_ => h_.1))); (case side30 => exact (Kd.S_reads' HO378.out).2.1); (case side31 => refine (Kd.S_reads' (e := 118) (base := w.heap.size) (ok := fun k_ => ((((((((((some k_ ≠ (.slice Ao83 t367.length co83 : Value).ownBlock ∧ some k_ ≠ (.slice Ao86 t376.length co86 : Value).ownBlock) ∧ some k_ ≠ (.slice Ao45 t284.length co45 : Value).ownBlock) ∧ some k_ ≠ (.slice Ao48 t293.length co48 : Value).ownBlock) ∧ some k_ ≠ (.slice Ao49 t296.length co49 : Value).ownBlock) ∧ some k_ ≠ (.slice Ao53 t311.length co53 : Value).ownBlock) ∧ some k_ ≠ (.slice Ao56 t320.length co56 : Value).ownBlock) ∧ some k_ ≠ (.slice Ao57 t323.length co57 : Value).ownBlock) ∧ some k_ ≠ (.slice Ao68 t339.length co68 : Value).ownBlock) ∧ some k_ ≠ (.slice Ao71 t348.length co71 : Value).ownBlock) ∧ some k_ ≠ (.slice Ao72 t351.length co72 : Value).ownBlock)) (n := t379.length) (c := co87) ?_).2.2; exact (sm_ (Kd.S_types HO381.out BK383.out (by decide)) (fun _ h_ => h_.1))); (case side32 => exact (Kd.S_reads' HO381.out).2.1); rintro e w89 ⟨rfl, hb⟩; refine ⟨_, rfl, ?_⟩; replace HO277 := Aside0.mk (Kd.R_below (rm_ (Kd.R_types HO277.out BK383.out (by decide)) (fun _ h_ => h_.1)) hb); replace HO280 := Aside0.mk (Kd.R_below (rm_ (Kd.R_types HO280.out BK383.out (by decide)) (fun _ h_ => h_.1)) hb); replace HO283 := Aside0.mk (Kd.R_below (rm_ (Kd.R_types HO283.out BK383.out (by decide)) (fun _ h_ => h_.1)) hb); replace HO286 := Aside0.mk (Kd.S_below (sm_ (Kd.S_types HO286.out BK383.out (by decide)) (fun _ h_ => h_.1)) hb); replace HO289 := Aside0.mk (Kd.R_below (rm_ (Kd.R_types HO289.out BK383.out (by decide)) (fun _ h_ => h_.1)) hb); replace HO292 := Aside0.mk (Kd.R_below (rm_ (Kd.R_types HO292.out BK383.out (by decide)) (fun _ h_ => h_.1)) hb); replace HO295 := Aside0.mk (Kd.S_below (sm_ (Kd.S_types HO295.out BK383.out (by decide)) (fun _ h_ => h_.1)) hb); replace HO298 := Aside0.mk (Kd.S_below (sm_ (Kd.S_types HO298.out BK383.out (by decide)) (fun _ h_ => h_.1)) hb); replace HO304 := Aside0.mk (Kd.R_below (rm_ (Kd.R_types HO304.out BK383.out (by decide)) (fun _ h_ => h_.1)) hb); replace HO307 := Aside0.mk (Kd.R_below (rm_ (Kd.R_types HO307.out BK383.out (by decide)) (fun _ h_ => h_.1)) hb); replace HO310 := Aside0.mk (Kd.R_below (rm_ (Kd.R_types HO310.out BK383.out (by decide)) (fun _ h_ => h_.1)) hb); replace HO313 := Aside0.mk (Kd.S_below (sm_ (Kd.S_types HO313.out BK383.out (by decide)) (fun _ h_ => h_.1)) hb); replace HO316 := Aside0.mk (Kd.R_below (rm_ (Kd.R_types HO316.out BK383.out (by decide)) (fun _ h_ => h_.1)) hb); replace HO319 := Aside0.mk (Kd.R_below (rm_ (Kd.R_types HO319.out BK383.out (by decide)) (fun _ h_ => h_.1)) hb); replace HO322 := Aside0.mk (Kd.S_below (sm_ (Kd.S_types HO322.out BK383.out (by decide)) (fun _ h_ => h_.1)) hb); replace HO325 := Aside0.mk (Kd.S_below (sm_ (Kd.S_types HO325.out BK383.out (by decide)) (fun _ h_ => h_.1)) hb); replace HO332 := Aside0.mk (Kd.R_below (rm_ (Kd.R_types HO332.out BK383.out (by decide)) (fun _ h_ => h_.1)) hb); replace HO335 := Aside0.mk (Kd.R_below (rm_ (Kd.R_types HO335.out BK383.out (by decide)) (fun _ h_ => h_.1)) hb); replace HO338 := Aside0.mk (Kd.R_below (rm_ (Kd.R_types HO338.out BK383.out (by decide)) (fun _ h_ => h_.1)) hb); replace HO341 := Aside0.mk (Kd.S_below (sm_ (Kd.S_types HO341.out BK383.out (by decide)) (fun _ h_ => h_.1)) hb); replace HO344 := Aside0.mk (Kd.R_below (rm_ (Kd.R_types HO344.out BK383.out (by decide)) (fun _ h_ => h_.1)) hb); replace HO347 := Aside0.mk (Kd.R_below (rm_ (Kd.R_types HO347.out BK383.out (by decide)) (fun _ h_ => h_.1)) hb); replace HO350 := Aside0.mk (Kd.S_below (sm_ (Kd.S_types HO350.out BK383.out (by decide)) (fun _ h_ => h_.1)) hb); replace HO353 := Aside0.mk (Kd.S_below (sm_ (Kd.S_types HO353.out BK383.out (by decide)) (fun _ h_ => h_.1)) hb); replace HO360 := Aside0.mk (Kd.R_below (rm_ (Kd.R_types HO360.out BK383.out (by decide)) (fun _ h_ => h_.1)) hb); replace HO363 := Aside0.mk (Kd.R_below (rm_ (Kd.R_types HO363.out BK383.out (by decide)) (fun _ h_ => h_.1)) hb); replace HO366 := Aside0.mk (Kd.R_below (rm_ (Kd.R_types HO366.out BK383.out (by decide)) (fun _ h_ => h_.1)) hb); replace HO369 := Aside0.mk (Kd.S_below (sm_ (Kd.S_types HO369.out BK383.out (by decide)) (fun _ h_ => h_.1)) hb); replace HO372 := Aside0.mk (Kd.R_below (rm_ (Kd.R_types HO372.out BK383.out (by decide)) (fun _ h_ => h_.1)) hb); replace HO375 := Aside0.mk (Kd.R_below (rm_ (Kd.R_types HO375.out BK383.out (by decide)) (fun _ h_ => h_.1)) hb); replace HO378 := Aside0.mk (Kd.S_below (sm_ (Kd.S_types HO378.out BK383.out (by decide)) (fun _ h_ => h_.1)) hb); replace HO381 := Aside0.mk (Kd.S_below (sm_ (Kd.S_types HO381.out BK383.out (by decide)) (fun _ h_ => h_.1)) hb); replace BK269 := Aside0.mk (blk_below (bf_ BK269.out) hb); replace BK270 := Aside0.mk (blk_below (bf_ BK270.out) hb); replace BK355 := Aside0.mk (blk_below (bf_ BK355.out) hb); replace BK383 := Aside0.mk (blk_below (g := gb383) (o := .cells #[.int .i64 t356, .int .i64 t357, .slice Ao80 t358.length co80, .slice Ao81 t361.length co81, .slice Ao82 t364.length co82, .slice Ao83 t367.length co83, .slice Ao84 t370.length co84, .slice Ao85 t373.length co85, .slice Ao86 t376.length co86, .slice Ao87 t379.length co87, .int .i64 t382] 55 (0, 0)) (by (with_reducible repeat (first | refine blk_drewN ?_ _ | refine blk_drew ?_ | refine blk_alloc ?_ _)); refine blk_put (cs := #[.int .i64 t356, .int .i64 t357, .slice Ao80 t358.length co80, .slice Ao81 t361.length co81, .slice Ao82 t364.length co82, .slice Ao83 t367.length co83, .slice Ao84 t370.length co84, .slice Ao85 t373.length co85, .slice Ao86 t376.length co86, .slice Ao87 t379.length co87, .int .i64 0]) ?_ 10 _ rfl; (with_reducible repeat (first | refine blk_drewN ?_ _ | refine blk_drew ?_ | refine blk_alloc ?_ _)); refine blk_put (cs := #[.int .i64 t356, .int .i64 t357, .slice Ao80 t358.length co80, .slice Ao81 t361.length co81, .slice Ao82 t364.length co82, .slice Ao83 t367.length co83, .slice Ao84 t370.length co84, .slice Ao85 t373.length co85, .slice Ao86 t376.length co86, .slice none 0 0, .int .i64 0]) ?_ 9 _ rfl; (with_reducible repeat (first | refine blk_drewN ?_ _ | refine blk_drew ?_ | refine blk_alloc ?_ _)); refine blk_put (cs := #[.int .i64 t356, .int .i64 t357, .slice Ao80 t358.length co80, .slice Ao81 t361.length co81, .slice Ao82 t364.length co82, .slice Ao83 t367.length co83, .slice Ao84 t370.length co84, .slice Ao85 t373.length co85, .slice none 0 0, .slice none 0 0, .int .i64 0]) ?_ 8 _ rfl; (with_reducible repeat (first | refine blk_drewN ?_ _ | refine blk_drew ?_ | refine blk_alloc ?_ _)); refine blk_put (cs := #[.int .i64 t356, .int .i64 t357, .slice Ao80 t358.length co80, .slice Ao81 t361.length co81, .slice Ao82 t364.length co82, .slice Ao83 t367.length co83, .slice Ao84 t370.length co84, .slice none 0 0, .slice none 0 0, .slice none 0 0, .int .i64 0]) ?_ 7 _ rfl; (with_reducible repeat (first | refine blk_drewN ?_ _ | refine blk_drew ?_ | refine blk_alloc ?_ _)); refine blk_put (cs := #[.int .i64 t356, .int .i64 t357, .slice Ao80 t358.length co80, .slice Ao81 t361.length co81, .slice Ao82 t364.length co82, .slice Ao83 t367.length co83, .slice none 0 0, .slice none 0 0, .slice none 0 0, .slice none 0 0, .int .i64 0]) ?_ 6 _ rfl; (with_reducible repeat (first | refine blk_drewN ?_ _ | refine blk_drew ?_ | refine blk_alloc ?_ _)); refine blk_put (cs := #[.int .i64 t356, .int .i64 t357, .slice Ao80 t358.length co80, .slice Ao81 t361.length co81, .slice Ao82 t364.length co82, .slice none 0 0, .slice none 0 0, .slice none 0 0, .slice none 0 0, .slice none 0 0, .int .i64 0]) ?_ 5 _ rfl; (with_reducible repeat (first | refine blk_drewN ?_ _ | refine blk_drew ?_ | refine blk_alloc ?_ _)); refine blk_put (cs := #[.int .i64 t356, .int .i64 t357, .slice Ao80 t358.length co80, .slice Ao81 t361.length co81, .slice none 0 0, .slice none 0 0, .slice none 0 0, .slice none 0 0, .slice none 0 0, .slice none 0 0, .int .i64 0]) ?_ 4 _ rfl; (with_reducible repeat (first | refine blk_drewN ?_ _ | refine blk_drew ?_ | refine blk_alloc ?_ _)); refine blk_put (cs := #[.int .i64 t356, .int .i64 t357, .slice Ao80 t358.length co80, .slice none 0 0, .slice none 0 0, .slice none 0 0, .slice none 0 0, .slice none 0 0, .slice none 0 0, .slice none 0 0, .int .i64 0]) ?_ 3 _ rfl; (with_reducible repeat (first | refine blk_drewN ?_ _ | refine blk_drew ?_ | refine blk_alloc ?_ _)); refine blk_put (cs := #[.int .i64 t356, .int .i64 t357, .slice none 0 0, .slice none 0 0, .slice none 0 0, .slice none 0 0, .slice none 0 0, .slice none 0 0, .slice none 0 0, .slice none 0 0, .int .i64 0]) ?_ 2 _ rfl; (with_reducible repeat (first | refine blk_drewN ?_ _ | refine blk_drew ?_ | refine blk_alloc ?_ _)); refine blk_put (cs := #[.int .i64 t356, .int .i64 0, .slice none 0 0, .slice none 0 0, .slice none 0 0, .slice none 0 0, .slice none 0 0, .slice none 0 0, .slice none 0 0, .slice none 0 0, .int .i64 0]) ?_ 1 _ rfl; (with_reducible repeat (first | refine blk_drewN ?_ _ | refine blk_drew ?_ | refine blk_alloc ?_ _)); refine blk_put (cs := #[.int .i64 0, .int .i64 0, .slice none 0 0, .slice none 0 0, .slice none 0 0, .slice none 0 0, .slice none 0 0, .slice none 0 0, .slice none 0 0, .slice none 0 0, .int .i64 0]) ?_ 0 _ rfl; (with_reducible repeat (first | refine blk_drewN ?_ _ | refine blk_drew ?_ | refine blk_alloc ?_ _)); exact BK383.out) hb); replace HB := Aside0.mk (bs_ HB.out hb); (try clear hb)))
      have n0_ := Aside0.mk (Kd.R_drew HO277.out)
      have n1_ := Aside0.mk (Kd.R_drew HO280.out)
      have n2_ := Aside0.mk (Kd.R_drew HO283.out)
      have n3_ := Aside0.mk (Kd.S_drew HO286.out)
      have n4_ := Aside0.mk (Kd.R_drew HO289.out)
      have n5_ := Aside0.mk (Kd.R_drew HO292.out)
      have n6_ := Aside0.mk (Kd.S_drew HO295.out)
      have n7_ := Aside0.mk (Kd.S_drew HO298.out)
      have n8_ := Aside0.mk (Kd.R_drew HO304.out)
      have n9_ := Aside0.mk (Kd.R_drew HO307.out)
      have n10_ := Aside0.mk (Kd.R_drew HO310.out)
      have n11_ := Aside0.mk (Kd.S_drew HO313.out)
      have n12_ := Aside0.mk (Kd.R_drew HO316.out)
      have n13_ := Aside0.mk (Kd.R_drew HO319.out)
      have n14_ := Aside0.mk (Kd.S_drew HO322.out)
      have n15_ := Aside0.mk (Kd.S_drew HO325.out)
      have n16_ := Aside0.mk (Kd.R_drew HO332.out)
      have n17_ := Aside0.mk (Kd.R_drew HO335.out)
      have n18_ := Aside0.mk (Kd.R_drew HO338.out)
      have n19_ := Aside0.mk (Kd.S_drew HO341.out)
      have n20_ := Aside0.mk (Kd.R_drew HO344.out)
      have n21_ := Aside0.mk (Kd.R_drew HO347.out)
      have n22_ := Aside0.mk (Kd.S_drew HO350.out)
      have n23_ := Aside0.mk (Kd.S_drew HO353.out)
      have n24_ := Aside0.mk (Kd.R_drew HO360.out)
      have n25_ := Aside0.mk (Kd.R_drew HO363.out)
      have n26_ := Aside0.mk (Kd.R_drew HO366.out)
      have n27_ := Aside0.mk (Kd.S_drew HO369.out)
      have n28_ := Aside0.mk (Kd.R_drew HO372.out)
      have n29_ := Aside0.mk (Kd.R_drew HO375.out)
      have n30_ := Aside0.mk (Kd.S_drew HO378.out)
      have n31_ := Aside0.mk (Kd.S_drew HO381.out)
      have n32_ := Aside0.mk (blk_drew BK269.out)
      have n33_ := Aside0.mk (blk_drew BK270.out)
      have n34_ := Aside0.mk (blk_drew BK355.out)
      have n35_ := Aside0.mk (blk_drew BK383.out)
      have n36_ := Aside0.mk (below_drew1 HB.out)
      clear HO277
      clear HO280
      clear HO283
      clear HO286
      clear HO289
      clear HO292
      clear HO295
      clear HO298
      clear HO304
      clear HO307
      clear HO310
      clear HO313
      clear HO316
      clear HO319
      clear HO322
      clear HO325
      clear HO332
      clear HO335
      clear HO338
      clear HO341
      clear HO344
      clear HO347
      clear HO350
      clear HO353
      clear HO360
      clear HO363
      clear HO366
      clear HO369
      clear HO372
      clear HO375
      clear HO378
      clear HO381
      clear BK269
      clear BK270
      clear BK355
      clear BK383
      clear HB
      have HO277 := n0_
      have HO280 := n1_
      have HO283 := n2_
      have HO286 := n3_
      have HO289 := n4_
      have HO292 := n5_
      have HO295 := n6_
      have HO298 := n7_
      have HO304 := n8_
      have HO307 := n9_
      have HO310 := n10_
      have HO313 := n11_
      have HO316 := n12_
      have HO319 := n13_
      have HO322 := n14_
      have HO325 := n15_
      have HO332 := n16_
      have HO335 := n17_
      have HO338 := n18_
      have HO341 := n19_
      have HO344 := n20_
      have HO347 := n21_
      have HO350 := n22_
      have HO353 := n23_
      have HO360 := n24_
      have HO363 := n25_
      have HO366 := n26_
      have HO369 := n27_
      have HO372 := n28_
      have HO375 := n29_
      have HO378 := n30_
      have HO381 := n31_
      have BK269 := n32_
      have BK270 := n33_
      have BK355 := n34_
      have BK383 := n35_
      have HB := n36_
      clear n0_ n1_ n2_ n3_ n4_ n5_ n6_ n7_ n8_ n9_ n10_ n11_ n12_ n13_ n14_ n15_ n16_ n17_ n18_ n19_ n20_ n21_ n22_ n23_ n24_ n25_ n26_ n27_ n28_ n29_ n30_ n31_ n32_ n33_ n34_ n35_ n36_
      refine start_ (n := 5) (S := fun w' => w'.cell? ⟨gb355, 0, none⟩ = some (.int .i64 t328) ∧ w'.cell? ⟨gb355, 1, none⟩ = some (.int .i64 t329) ∧ w'.cell? ⟨gb355, 2, none⟩ = some (.slice Ao65 t330.length co65) ∧ w'.cell? ⟨gb355, 3, none⟩ = some (.slice Ao66 t333.length co66) ∧ w'.cell? ⟨gb355, 4, none⟩ = some (.slice Ao67 t336.length co67) ∧ w'.cell? ⟨gb355, 5, none⟩ = some (.slice Ao68 t339.length co68) ∧ w'.cell? ⟨gb355, 6, none⟩ = some (.slice Ao69 t342.length co69) ∧ w'.cell? ⟨gb355, 7, none⟩ = some (.slice Ao70 t345.length co70) ∧ w'.cell? ⟨gb355, 8, none⟩ = some (.slice Ao71 t348.length co71) ∧ w'.cell? ⟨gb355, 9, none⟩ = some (.slice Ao72 t351.length co72) ∧ w'.cell? ⟨gb355, 10, none⟩ = some (.int .i64 t354) ∧ w'.cell? ⟨gb269, 0, none⟩ = some (.int .i64 a0_0) ∧ w'.cell? ⟨gb269, 1, none⟩ = some (.int .i64 a0_1) ∧ w'.cell? ⟨gb269, 2, none⟩ = some (.slice A0_2 l0_2.length c0_2) ∧ w'.cell? ⟨gb269, 3, none⟩ = some (.slice A0_3 l0_3.length c0_3) ∧ w'.cell? ⟨gb269, 4, none⟩ = some (.slice A0_4 l0_4.length c0_4) ∧ w'.cell? ⟨gb269, 5, none⟩ = some (.slice A0_5 l0_5.length c0_5) ∧ w'.cell? ⟨gb269, 6, none⟩ = some (.slice A0_6 l0_6.length c0_6) ∧ w'.cell? ⟨gb269, 7, none⟩ = some (.slice A0_7 l0_7.length c0_7) ∧ w'.cell? ⟨gb269, 8, none⟩ = some (.slice A0_8 l0_8.length c0_8) ∧ w'.cell? ⟨gb269, 9, none⟩ = some (.slice A0_9 l0_9.length c0_9) ∧ w'.cell? ⟨gb269, 10, none⟩ = some (.int .i64 a0_10)) (ds := []) #[false, false, false, false, false] (by kernel_rfl) rfl rfl ⟨(blk_cell BK355.out 0).trans rfl, (blk_cell BK355.out 1).trans rfl, (blk_cell BK355.out 2).trans rfl, (blk_cell BK355.out 3).trans rfl, (blk_cell BK355.out 4).trans rfl, (blk_cell BK355.out 5).trans rfl, (blk_cell BK355.out 6).trans rfl, (blk_cell BK355.out 7).trans rfl, (blk_cell BK355.out 8).trans rfl, (blk_cell BK355.out 9).trans rfl, (blk_cell BK355.out 10).trans rfl, (blk_cell BK269.out 0).trans rfl, (blk_cell BK269.out 1).trans rfl, (blk_cell BK269.out 2).trans rfl, (blk_cell BK269.out 3).trans rfl, (blk_cell BK269.out 4).trans rfl, (blk_cell BK269.out 5).trans rfl, (blk_cell BK269.out 6).trans rfl, (blk_cell BK269.out 7).trans rfl, (blk_cell BK269.out 8).trans rfl, (blk_cell BK269.out 9).trans rfl, (blk_cell BK269.out 10).trans rfl⟩ (fun hHeld => ?_)
      generalize w89.drew = w90 at HO277 HO280 HO283 HO286 HO289 HO292 HO295 HO298 HO304 HO307 HO310 HO313 HO316 HO319 HO322 HO325 HO332 HO335 HO338 HO341 HO344 HO347 HO350 HO353 HO360 HO363 HO366 HO369 HO372 HO375 HO378 HO381 BK269 BK270 BK355 BK383 HB hHeld ⊢
      refine take_ (i := 0) (N := some 35) (v := ?_) (a' := ?_) (bt_ 5 1) rfl rfl (by kernel_rfl) (fun _ _ _ h => h) (Or.inl ⟨by rfl, ?_⟩) hHeld ?_ ?_
      rotate_left
      ·rintro w' ⟨s0, s1, s2, s3, s4, s5, s6, s7, s8, s9, s10, s11, s12, s13, s14, s15, s16, s17, s18, s19, s20, s21⟩
       go_simp
       with_reducible rfl
      rotate_left
      ·simp only [Act.put, List.setIfInBounds_toArray, List.set_cons_zero, List.set_cons_succ, i64_w, i32_w]
       rfl
      refine take_ (i := 1) (N := some 36) (v := ?_) (a' := ?_) (bt_ 5 3) rfl rfl (by kernel_rfl) (fun _ _ _ h => h) (Or.inl ⟨by rfl, ?_⟩) hHeld ?_ ?_
      rotate_left
      ·rintro w' ⟨s0, s1, s2, s3, s4, s5, s6, s7, s8, s9, s10, s11, s12, s13, s14, s15, s16, s17, s18, s19, s20, s21⟩
       go_simp
       with_reducible rfl
      rotate_left
      ·simp only [Act.put, List.setIfInBounds_toArray, List.set_cons_zero, List.set_cons_succ, i64_w, i32_w]
       rfl
      refine one_ (i := 2) (N := some 37) (bt_ 5 7) rfl rfl (by kernel_rfl) (by decide) (fun K hK => ?_)
      refine goes_ Try.func50 (by kernel_rfl) rfl #[.agg #[.int .i64 a0_0, .int .i64 a0_1, .slice A0_2 l0_2.length c0_2, .slice A0_3 l0_3.length c0_3, .slice A0_4 l0_4.length c0_4, .slice A0_5 l0_5.length c0_5, .slice A0_6 l0_6.length c0_6, .slice A0_7 l0_7.length c0_7, .slice A0_8 l0_8.length c0_8, .slice A0_9 l0_9.length c0_9, .int .i64 a0_10]] (by rfl) rfl rfl (by (try simp only [List.map_toArray, List.map_cons, List.map_nil]); first | done | rfl | (simp only [List.length_drop, List.length_take]; rfl)) ?_
      with_reducible refine (laws_toNet.calls k a0_0 a0_1 _ _ l0_2 _ _ l0_3 _ _ l0_4 _ _ l0_5 _ _ l0_6 _ _ l0_7 _ _ l0_8 _ _ l0_9 a0_10 t385 t386 t387 t390 t393 t396 t399 t402 t405 t408 t411 _ ?side1 ?side2 ?side3 ?side4 ?side5 ?side6 ?side7 ?side8 ?side9 ?side10 ?side11 ?side12 ?side13 ?side14 ?side15 ?side16 A26.out).mono ?_
      (case side1 => exact cb_ HR0_2.out HB.out)
      (case side2 => exact HC0_2.out)
      (case side3 => exact cb_ HR0_3.out HB.out)
      (case side4 => exact HC0_3.out)
      (case side5 => exact cb_ HR0_4.out HB.out)
      (case side6 => exact HC0_4.out)
      (case side7 => exact cb_ HR0_5.out HB.out)
      (case side8 => exact HC0_5.out)
      (case side9 => exact cb_ HR0_6.out HB.out)
      (case side10 => exact HC0_6.out)
      (case side11 => exact cb_ HR0_7.out HB.out)
      (case side12 => exact HC0_7.out)
      (case side13 => exact cb_ HR0_8.out HB.out)
      (case side14 => exact HC0_8.out)
      (case side15 => exact cb_ HR0_9.out HB.out)
      (case side16 => exact HC0_9.out)
      rintro e w91 ⟨v388, v391, v394, v397, v400, v403, v406, v409, rfl, ho0, ho1, ho2, ho3, ho4, ho5, ho6, ho7, hb⟩
      refine ⟨_, rfl, ?_⟩
      have n0_ := Aside0.mk (Kd.R_mono (Kd.R_told (Kd.R_told (Kd.R_told (Kd.R_told (Kd.R_told (Kd.R_old (ra_ HO277.out) hb) (Kd.R_base ho0)) (Kd.R_base ho1)) (Kd.R_base ho2)) (Kd.R_base ho4)) (Kd.R_base ho5)) (fun _ h_ => h_.1))
      have n1_ := Aside0.mk (Kd.R_mono (Kd.R_told (Kd.R_told (Kd.R_told (Kd.R_told (Kd.R_told (Kd.R_old (ra_ HO280.out) hb) (Kd.R_base ho0)) (Kd.R_base ho1)) (Kd.R_base ho2)) (Kd.R_base ho4)) (Kd.R_base ho5)) (fun _ h_ => h_.1))
      have n2_ := Aside0.mk (Kd.R_mono (Kd.R_told (Kd.R_told (Kd.R_told (Kd.R_told (Kd.R_told (Kd.R_old (ra_ HO283.out) hb) (Kd.R_base ho0)) (Kd.R_base ho1)) (Kd.R_base ho2)) (Kd.R_base ho4)) (Kd.R_base ho5)) (fun _ h_ => h_.1))
      have n3_ := Aside0.mk (Kd.S_mono (Kd.S_told (Kd.S_told (Kd.S_told (Kd.S_old (sa_ HO286.out) hb) (Kd.S_base ho3)) (Kd.S_base ho6)) (Kd.S_base ho7)) (fun _ h_ => h_.1))
      have n4_ := Aside0.mk (Kd.R_mono (Kd.R_told (Kd.R_told (Kd.R_told (Kd.R_told (Kd.R_told (Kd.R_old (ra_ HO289.out) hb) (Kd.R_base ho0)) (Kd.R_base ho1)) (Kd.R_base ho2)) (Kd.R_base ho4)) (Kd.R_base ho5)) (fun _ h_ => h_.1))
      have n5_ := Aside0.mk (Kd.R_mono (Kd.R_told (Kd.R_told (Kd.R_told (Kd.R_told (Kd.R_told (Kd.R_old (ra_ HO292.out) hb) (Kd.R_base ho0)) (Kd.R_base ho1)) (Kd.R_base ho2)) (Kd.R_base ho4)) (Kd.R_base ho5)) (fun _ h_ => h_.1))
      have n6_ := Aside0.mk (Kd.S_mono (Kd.S_told (Kd.S_told (Kd.S_told (Kd.S_old (sa_ HO295.out) hb) (Kd.S_base ho3)) (Kd.S_base ho6)) (Kd.S_base ho7)) (fun _ h_ => h_.1))
      have n7_ := Aside0.mk (Kd.S_mono (Kd.S_told (Kd.S_told (Kd.S_told (Kd.S_old (sa_ HO298.out) hb) (Kd.S_base ho3)) (Kd.S_base ho6)) (Kd.S_base ho7)) (fun _ h_ => h_.1))
      have n8_ := Aside0.mk (Kd.R_mono (Kd.R_told (Kd.R_told (Kd.R_told (Kd.R_told (Kd.R_told (Kd.R_old (ra_ HO304.out) hb) (Kd.R_base ho0)) (Kd.R_base ho1)) (Kd.R_base ho2)) (Kd.R_base ho4)) (Kd.R_base ho5)) (fun _ h_ => h_.1))
      have n9_ := Aside0.mk (Kd.R_mono (Kd.R_told (Kd.R_told (Kd.R_told (Kd.R_told (Kd.R_told (Kd.R_old (ra_ HO307.out) hb) (Kd.R_base ho0)) (Kd.R_base ho1)) (Kd.R_base ho2)) (Kd.R_base ho4)) (Kd.R_base ho5)) (fun _ h_ => h_.1))
      have n10_ := Aside0.mk (Kd.R_mono (Kd.R_told (Kd.R_told (Kd.R_told (Kd.R_told (Kd.R_told (Kd.R_old (ra_ HO310.out) hb) (Kd.R_base ho0)) (Kd.R_base ho1)) (Kd.R_base ho2)) (Kd.R_base ho4)) (Kd.R_base ho5)) (fun _ h_ => h_.1))
      have n11_ := Aside0.mk (Kd.S_mono (Kd.S_told (Kd.S_told (Kd.S_told (Kd.S_old (sa_ HO313.out) hb) (Kd.S_base ho3)) (Kd.S_base ho6)) (Kd.S_base ho7)) (fun _ h_ => h_.1))
      have n12_ := Aside0.mk (Kd.R_mono (Kd.R_told (Kd.R_told (Kd.R_told (Kd.R_told (Kd.R_told (Kd.R_old (ra_ HO316.out) hb) (Kd.R_base ho0)) (Kd.R_base ho1)) (Kd.R_base ho2)) (Kd.R_base ho4)) (Kd.R_base ho5)) (fun _ h_ => h_.1))
      have n13_ := Aside0.mk (Kd.R_mono (Kd.R_told (Kd.R_told (Kd.R_told (Kd.R_told (Kd.R_told (Kd.R_old (ra_ HO319.out) hb) (Kd.R_base ho0)) (Kd.R_base ho1)) (Kd.R_base ho2)) (Kd.R_base ho4)) (Kd.R_base ho5)) (fun _ h_ => h_.1))
      have n14_ := Aside0.mk (Kd.S_mono (Kd.S_told (Kd.S_told (Kd.S_told (Kd.S_old (sa_ HO322.out) hb) (Kd.S_base ho3)) (Kd.S_base ho6)) (Kd.S_base ho7)) (fun _ h_ => h_.1))
      have n15_ := Aside0.mk (Kd.S_mono (Kd.S_told (Kd.S_told (Kd.S_told (Kd.S_old (sa_ HO325.out) hb) (Kd.S_base ho3)) (Kd.S_base ho6)) (Kd.S_base ho7)) (fun _ h_ => h_.1))
      have n16_ := Aside0.mk (Kd.R_mono (Kd.R_told (Kd.R_told (Kd.R_told (Kd.R_told (Kd.R_told (Kd.R_old (ra_ HO332.out) hb) (Kd.R_base ho0)) (Kd.R_base ho1)) (Kd.R_base ho2)) (Kd.R_base ho4)) (Kd.R_base ho5)) (fun _ h_ => h_.1))
      have n17_ := Aside0.mk (Kd.R_mono (Kd.R_told (Kd.R_told (Kd.R_told (Kd.R_told (Kd.R_told (Kd.R_old (ra_ HO335.out) hb) (Kd.R_base ho0)) (Kd.R_base ho1)) (Kd.R_base ho2)) (Kd.R_base ho4)) (Kd.R_base ho5)) (fun _ h_ => h_.1))
      have n18_ := Aside0.mk (Kd.R_mono (Kd.R_told (Kd.R_told (Kd.R_told (Kd.R_told (Kd.R_told (Kd.R_old (ra_ HO338.out) hb) (Kd.R_base ho0)) (Kd.R_base ho1)) (Kd.R_base ho2)) (Kd.R_base ho4)) (Kd.R_base ho5)) (fun _ h_ => h_.1))
      have n19_ := Aside0.mk (Kd.S_mono (Kd.S_told (Kd.S_told (Kd.S_told (Kd.S_old (sa_ HO341.out) hb) (Kd.S_base ho3)) (Kd.S_base ho6)) (Kd.S_base ho7)) (fun _ h_ => h_.1))
      have n20_ := Aside0.mk (Kd.R_mono (Kd.R_told (Kd.R_told (Kd.R_told (Kd.R_told (Kd.R_told (Kd.R_old (ra_ HO344.out) hb) (Kd.R_base ho0)) (Kd.R_base ho1)) (Kd.R_base ho2)) (Kd.R_base ho4)) (Kd.R_base ho5)) (fun _ h_ => h_.1))
      have n21_ := Aside0.mk (Kd.R_mono (Kd.R_told (Kd.R_told (Kd.R_told (Kd.R_told (Kd.R_told (Kd.R_old (ra_ HO347.out) hb) (Kd.R_base ho0)) (Kd.R_base ho1)) (Kd.R_base ho2)) (Kd.R_base ho4)) (Kd.R_base ho5)) (fun _ h_ => h_.1))
      have n22_ := Aside0.mk (Kd.S_mono (Kd.S_told (Kd.S_told (Kd.S_told (Kd.S_old (sa_ HO350.out) hb) (Kd.S_base ho3)) (Kd.S_base ho6)) (Kd.S_base ho7)) (fun _ h_ => h_.1))
      have n23_ := Aside0.mk (Kd.S_mono (Kd.S_told (Kd.S_told (Kd.S_told (Kd.S_old (sa_ HO353.out) hb) (Kd.S_base ho3)) (Kd.S_base ho6)) (Kd.S_base ho7)) (fun _ h_ => h_.1))
      have n24_ := Aside0.mk (Kd.R_mono (Kd.R_told (Kd.R_told (Kd.R_told (Kd.R_told (Kd.R_told (Kd.R_old (ra_ HO360.out) hb) (Kd.R_base ho0)) (Kd.R_base ho1)) (Kd.R_base ho2)) (Kd.R_base ho4)) (Kd.R_base ho5)) (fun _ h_ => h_.1))
      have n25_ := Aside0.mk (Kd.R_mono (Kd.R_told (Kd.R_told (Kd.R_told (Kd.R_told (Kd.R_told (Kd.R_old (ra_ HO363.out) hb) (Kd.R_base ho0)) (Kd.R_base ho1)) (Kd.R_base ho2)) (Kd.R_base ho4)) (Kd.R_base ho5)) (fun _ h_ => h_.1))
      have n26_ := Aside0.mk (Kd.R_mono (Kd.R_told (Kd.R_told (Kd.R_told (Kd.R_told (Kd.R_told (Kd.R_old (ra_ HO366.out) hb) (Kd.R_base ho0)) (Kd.R_base ho1)) (Kd.R_base ho2)) (Kd.R_base ho4)) (Kd.R_base ho5)) (fun _ h_ => h_.1))
      have n27_ := Aside0.mk (Kd.S_mono (Kd.S_told (Kd.S_told (Kd.S_told (Kd.S_old (sa_ HO369.out) hb) (Kd.S_base ho3)) (Kd.S_base ho6)) (Kd.S_base ho7)) (fun _ h_ => h_.1))
      have n28_ := Aside0.mk (Kd.R_mono (Kd.R_told (Kd.R_told (Kd.R_told (Kd.R_told (Kd.R_told (Kd.R_old (ra_ HO372.out) hb) (Kd.R_base ho0)) (Kd.R_base ho1)) (Kd.R_base ho2)) (Kd.R_base ho4)) (Kd.R_base ho5)) (fun _ h_ => h_.1))
      have n29_ := Aside0.mk (Kd.R_mono (Kd.R_told (Kd.R_told (Kd.R_told (Kd.R_told (Kd.R_told (Kd.R_old (ra_ HO375.out) hb) (Kd.R_base ho0)) (Kd.R_base ho1)) (Kd.R_base ho2)) (Kd.R_base ho4)) (Kd.R_base ho5)) (fun _ h_ => h_.1))
      have n30_ := Aside0.mk (Kd.S_mono (Kd.S_told (Kd.S_told (Kd.S_told (Kd.S_old (sa_ HO378.out) hb) (Kd.S_base ho3)) (Kd.S_base ho6)) (Kd.S_base ho7)) (fun _ h_ => h_.1))
      have n31_ := Aside0.mk (Kd.S_mono (Kd.S_told (Kd.S_told (Kd.S_told (Kd.S_old (sa_ HO381.out) hb) (Kd.S_base ho3)) (Kd.S_base ho6)) (Kd.S_base ho7)) (fun _ h_ => h_.1))
      have n32_ := Aside0.mk (Kd.R_lower (Kd.R_new' (Kd.R_new' (Kd.R_new' (Kd.R_new' (Kd.R_new' (Kd.R_new' (Kd.R_new' (Kd.R_new' (Kd.R_new' (Kd.R_new' (Kd.R_new' (Kd.R_new' (Kd.R_new' (Kd.R_new' (Kd.R_new' (Kd.R_new' (Kd.R_new' (Kd.R_new' (Kd.R_new' (Kd.R_new' ho0 (rl_ HO277.out)) (rl_ HO280.out)) (rl_ HO283.out)) (rl_ HO289.out)) (rl_ HO292.out)) (rl_ HO304.out)) (rl_ HO307.out)) (rl_ HO310.out)) (rl_ HO316.out)) (rl_ HO319.out)) (rl_ HO332.out)) (rl_ HO335.out)) (rl_ HO338.out)) (rl_ HO344.out)) (rl_ HO347.out)) (rl_ HO360.out)) (rl_ HO363.out)) (rl_ HO366.out)) (rl_ HO372.out)) (rl_ HO375.out)) (bz_ HB.out))
      have n33_ := Aside0.mk (Kd.R_lower (Kd.R_new' (Kd.R_new' (Kd.R_new' (Kd.R_new' (Kd.R_new' (Kd.R_new' (Kd.R_new' (Kd.R_new' (Kd.R_new' (Kd.R_new' (Kd.R_new' (Kd.R_new' (Kd.R_new' (Kd.R_new' (Kd.R_new' (Kd.R_new' (Kd.R_new' (Kd.R_new' (Kd.R_new' (Kd.R_new' ho1 (rl_ HO277.out)) (rl_ HO280.out)) (rl_ HO283.out)) (rl_ HO289.out)) (rl_ HO292.out)) (rl_ HO304.out)) (rl_ HO307.out)) (rl_ HO310.out)) (rl_ HO316.out)) (rl_ HO319.out)) (rl_ HO332.out)) (rl_ HO335.out)) (rl_ HO338.out)) (rl_ HO344.out)) (rl_ HO347.out)) (rl_ HO360.out)) (rl_ HO363.out)) (rl_ HO366.out)) (rl_ HO372.out)) (rl_ HO375.out)) (bz_ HB.out))
      have n34_ := Aside0.mk (Kd.R_lower (Kd.R_new' (Kd.R_new' (Kd.R_new' (Kd.R_new' (Kd.R_new' (Kd.R_new' (Kd.R_new' (Kd.R_new' (Kd.R_new' (Kd.R_new' (Kd.R_new' (Kd.R_new' (Kd.R_new' (Kd.R_new' (Kd.R_new' (Kd.R_new' (Kd.R_new' (Kd.R_new' (Kd.R_new' (Kd.R_new' ho2 (rl_ HO277.out)) (rl_ HO280.out)) (rl_ HO283.out)) (rl_ HO289.out)) (rl_ HO292.out)) (rl_ HO304.out)) (rl_ HO307.out)) (rl_ HO310.out)) (rl_ HO316.out)) (rl_ HO319.out)) (rl_ HO332.out)) (rl_ HO335.out)) (rl_ HO338.out)) (rl_ HO344.out)) (rl_ HO347.out)) (rl_ HO360.out)) (rl_ HO363.out)) (rl_ HO366.out)) (rl_ HO372.out)) (rl_ HO375.out)) (bz_ HB.out))
      have n35_ := Aside0.mk (Kd.S_lower (Kd.S_new' (Kd.S_new' (Kd.S_new' (Kd.S_new' (Kd.S_new' (Kd.S_new' (Kd.S_new' (Kd.S_new' (Kd.S_new' (Kd.S_new' (Kd.S_new' (Kd.S_new' ho3 (sl_ HO286.out)) (sl_ HO295.out)) (sl_ HO298.out)) (sl_ HO313.out)) (sl_ HO322.out)) (sl_ HO325.out)) (sl_ HO341.out)) (sl_ HO350.out)) (sl_ HO353.out)) (sl_ HO369.out)) (sl_ HO378.out)) (sl_ HO381.out)) (bz_ HB.out))
      have n36_ := Aside0.mk (Kd.R_lower (Kd.R_new' (Kd.R_new' (Kd.R_new' (Kd.R_new' (Kd.R_new' (Kd.R_new' (Kd.R_new' (Kd.R_new' (Kd.R_new' (Kd.R_new' (Kd.R_new' (Kd.R_new' (Kd.R_new' (Kd.R_new' (Kd.R_new' (Kd.R_new' (Kd.R_new' (Kd.R_new' (Kd.R_new' (Kd.R_new' ho4 (rl_ HO277.out)) (rl_ HO280.out)) (rl_ HO283.out)) (rl_ HO289.out)) (rl_ HO292.out)) (rl_ HO304.out)) (rl_ HO307.out)) (rl_ HO310.out)) (rl_ HO316.out)) (rl_ HO319.out)) (rl_ HO332.out)) (rl_ HO335.out)) (rl_ HO338.out)) (rl_ HO344.out)) (rl_ HO347.out)) (rl_ HO360.out)) (rl_ HO363.out)) (rl_ HO366.out)) (rl_ HO372.out)) (rl_ HO375.out)) (bz_ HB.out))
      have n37_ := Aside0.mk (Kd.R_lower (Kd.R_new' (Kd.R_new' (Kd.R_new' (Kd.R_new' (Kd.R_new' (Kd.R_new' (Kd.R_new' (Kd.R_new' (Kd.R_new' (Kd.R_new' (Kd.R_new' (Kd.R_new' (Kd.R_new' (Kd.R_new' (Kd.R_new' (Kd.R_new' (Kd.R_new' (Kd.R_new' (Kd.R_new' (Kd.R_new' ho5 (rl_ HO277.out)) (rl_ HO280.out)) (rl_ HO283.out)) (rl_ HO289.out)) (rl_ HO292.out)) (rl_ HO304.out)) (rl_ HO307.out)) (rl_ HO310.out)) (rl_ HO316.out)) (rl_ HO319.out)) (rl_ HO332.out)) (rl_ HO335.out)) (rl_ HO338.out)) (rl_ HO344.out)) (rl_ HO347.out)) (rl_ HO360.out)) (rl_ HO363.out)) (rl_ HO366.out)) (rl_ HO372.out)) (rl_ HO375.out)) (bz_ HB.out))
      have n38_ := Aside0.mk (Kd.S_lower (Kd.S_new' (Kd.S_new' (Kd.S_new' (Kd.S_new' (Kd.S_new' (Kd.S_new' (Kd.S_new' (Kd.S_new' (Kd.S_new' (Kd.S_new' (Kd.S_new' (Kd.S_new' ho6 (sl_ HO286.out)) (sl_ HO295.out)) (sl_ HO298.out)) (sl_ HO313.out)) (sl_ HO322.out)) (sl_ HO325.out)) (sl_ HO341.out)) (sl_ HO350.out)) (sl_ HO353.out)) (sl_ HO369.out)) (sl_ HO378.out)) (sl_ HO381.out)) (bz_ HB.out))
      have n39_ := Aside0.mk (Kd.S_lower (Kd.S_new' (Kd.S_new' (Kd.S_new' (Kd.S_new' (Kd.S_new' (Kd.S_new' (Kd.S_new' (Kd.S_new' (Kd.S_new' (Kd.S_new' (Kd.S_new' (Kd.S_new' ho7 (sl_ HO286.out)) (sl_ HO295.out)) (sl_ HO298.out)) (sl_ HO313.out)) (sl_ HO322.out)) (sl_ HO325.out)) (sl_ HO341.out)) (sl_ HO350.out)) (sl_ HO353.out)) (sl_ HO369.out)) (sl_ HO378.out)) (sl_ HO381.out)) (bz_ HB.out))
      have n40_ := Aside0.mk (bk_ BK269.out hb)
      have n41_ := Aside0.mk (bk_ BK270.out hb)
      have n42_ := Aside0.mk (bk_ BK355.out hb)
      have n43_ := Aside0.mk (bk_ BK383.out hb)
      have n44_ := Aside0.mk (bs_ HB.out hb)
      clear HO277
      clear HO280
      clear HO283
      clear HO286
      clear HO289
      clear HO292
      clear HO295
      clear HO298
      clear HO304
      clear HO307
      clear HO310
      clear HO313
      clear HO316
      clear HO319
      clear HO322
      clear HO325
      clear HO332
      clear HO335
      clear HO338
      clear HO341
      clear HO344
      clear HO347
      clear HO350
      clear HO353
      clear HO360
      clear HO363
      clear HO366
      clear HO369
      clear HO372
      clear HO375
      clear HO378
      clear HO381
      clear BK269
      clear BK270
      clear BK355
      clear BK383
      clear HB
      have HO277 := n0_
      have HO280 := n1_
      have HO283 := n2_
      have HO286 := n3_
      have HO289 := n4_
      have HO292 := n5_
      have HO295 := n6_
      have HO298 := n7_
      have HO304 := n8_
      have HO307 := n9_
      have HO310 := n10_
      have HO313 := n11_
      have HO316 := n12_
      have HO319 := n13_
      have HO322 := n14_
      have HO325 := n15_
      have HO332 := n16_
      have HO335 := n17_
      have HO338 := n18_
      have HO341 := n19_
      have HO344 := n20_
      have HO347 := n21_
      have HO350 := n22_
      have HO353 := n23_
      have HO360 := n24_
      have HO363 := n25_
      have HO366 := n26_
      have HO369 := n27_
      have HO372 := n28_
      have HO375 := n29_
      have HO378 := n30_
      have HO381 := n31_
      have HO389 := n32_
      have HO392 := n33_
      have HO395 := n34_
      have HO398 := n35_
      have HO401 := n36_
      have HO404 := n37_
      have HO407 := n38_
      have HO410 := n39_
      have BK269 := n40_
      have BK270 := n41_
      have BK355 := n42_
      have BK383 := n43_
      have HB := n44_
      clear n0_ n1_ n2_ n3_ n4_ n5_ n6_ n7_ n8_ n9_ n10_ n11_ n12_ n13_ n14_ n15_ n16_ n17_ n18_ n19_ n20_ n21_ n22_ n23_ n24_ n25_ n26_ n27_ n28_ n29_ n30_ n31_ n32_ n33_ n34_ n35_ n36_ n37_ n38_ n39_ n40_ n41_ n42_ n43_ n44_
      (try clear hb)
      (try clear hb2)
      (try clear hk)
      (try clear hi)
      (try clear ho0)
      (try clear ho1)
      (try clear ho2)
      (try clear ho3)
      (try clear ho4)
      (try clear ho5)
      (try clear ho6)
      (try clear ho7)
      obtain ⟨Ao92, co92, eo92⟩ := Kd.R_slice HO389.out
      (first | subst eo92 | (injection eo92 with f1_ f2_ f3_; have f4_ := f1_.symm; have f5_ := f3_.symm; clear f1_ f2_ f3_; subst f4_; subst f5_))
      obtain ⟨Ao93, co93, eo93⟩ := Kd.R_slice HO392.out
      (first | subst eo93 | (injection eo93 with f1_ f2_ f3_; have f4_ := f1_.symm; have f5_ := f3_.symm; clear f1_ f2_ f3_; subst f4_; subst f5_))
      obtain ⟨Ao94, co94, eo94⟩ := Kd.R_slice HO395.out
      (first | subst eo94 | (injection eo94 with f1_ f2_ f3_; have f4_ := f1_.symm; have f5_ := f3_.symm; clear f1_ f2_ f3_; subst f4_; subst f5_))
      obtain ⟨Ao95, co95, eo95⟩ := Kd.S_slice HO398.out
      (first | subst eo95 | (injection eo95 with f1_ f2_ f3_; have f4_ := f1_.symm; have f5_ := f3_.symm; clear f1_ f2_ f3_; subst f4_; subst f5_))
      obtain ⟨Ao96, co96, eo96⟩ := Kd.R_slice HO401.out
      (first | subst eo96 | (injection eo96 with f1_ f2_ f3_; have f4_ := f1_.symm; have f5_ := f3_.symm; clear f1_ f2_ f3_; subst f4_; subst f5_))
      obtain ⟨Ao97, co97, eo97⟩ := Kd.R_slice HO404.out
      (first | subst eo97 | (injection eo97 with f1_ f2_ f3_; have f4_ := f1_.symm; have f5_ := f3_.symm; clear f1_ f2_ f3_; subst f4_; subst f5_))
      obtain ⟨Ao98, co98, eo98⟩ := Kd.S_slice HO407.out
      (first | subst eo98 | (injection eo98 with f1_ f2_ f3_; have f4_ := f1_.symm; have f5_ := f3_.symm; clear f1_ f2_ f3_; subst f4_; subst f5_))
      obtain ⟨Ao99, co99, eo99⟩ := Kd.S_slice HO410.out
      (first | subst eo99 | (injection eo99 with f1_ f2_ f3_; have f4_ := f1_.symm; have f5_ := f3_.symm; clear f1_ f2_ f3_; subst f4_; subst f5_))
      refine hK.out _ _ ⟨(blk_cell BK355.out 0).trans rfl, (blk_cell BK355.out 1).trans rfl, (blk_cell BK355.out 2).trans rfl, (blk_cell BK355.out 3).trans rfl, (blk_cell BK355.out 4).trans rfl, (blk_cell BK355.out 5).trans rfl, (blk_cell BK355.out 6).trans rfl, (blk_cell BK355.out 7).trans rfl, (blk_cell BK355.out 8).trans rfl, (blk_cell BK355.out 9).trans rfl, (blk_cell BK355.out 10).trans rfl, (blk_cell BK269.out 0).trans rfl, (blk_cell BK269.out 1).trans rfl, (blk_cell BK269.out 2).trans rfl, (blk_cell BK269.out 3).trans rfl, (blk_cell BK269.out 4).trans rfl, (blk_cell BK269.out 5).trans rfl, (blk_cell BK269.out 6).trans rfl, (blk_cell BK269.out 7).trans rfl, (blk_cell BK269.out 8).trans rfl, (blk_cell BK269.out 9).trans rfl, (blk_cell BK269.out 10).trans rfl⟩ (fun hHeld => ?_)
      clear hK K
      refine norm_ (a' := ?_) ?_ ?_
      rotate_left
      ·show Act.put _ (some 37) _ = _
       simp only [Act.put, List.setIfInBounds_toArray, List.set_cons_zero, List.set_cons_succ, i64_w, i32_w]
       rfl
      refine one_ (i := 3) (N := some 38) (bt_ 5 15) rfl rfl (by kernel_rfl) (by decide) (fun K hK => ?_)
      refine goes_ Try.func52 (by kernel_rfl) rfl #[.agg #[.int .i64 t328, .int .i64 t329, .slice Ao65 t330.length co65, .slice Ao66 t333.length co66, .slice Ao67 t336.length co67, .slice Ao68 t339.length co68, .slice Ao69 t342.length co69, .slice Ao70 t345.length co70, .slice Ao71 t348.length co71, .slice Ao72 t351.length co72, .int .i64 t354], .agg #[.int .i64 t385, .int .i64 t386, .slice Ao92 t387.length co92, .slice Ao93 t390.length co93, .slice Ao94 t393.length co94, .slice Ao95 t396.length co95, .slice Ao96 t399.length co96, .slice Ao97 t402.length co97, .slice Ao98 t405.length co98, .slice Ao99 t408.length co99, .int .i64 t411]] (by rfl) rfl rfl (by (try simp only [List.map_toArray, List.map_cons, List.map_nil]); first | done | rfl | (simp only [List.length_drop, List.length_take]; rfl)) ?_
      with_reducible refine (laws_eqNet.calls k t328 t329 _ _ t330 _ _ t333 _ _ t336 _ _ t339 _ _ t342 _ _ t345 _ _ t348 _ _ t351 t354 t385 t386 _ _ t387 _ _ t390 _ _ t393 _ _ t396 _ _ t399 _ _ t402 _ _ t405 _ _ t408 t411 true _ ?side1 ?side2 ?side3 ?side4 ?side5 ?side6 ?side7 ?side8 ?side9 ?side10 ?side11 ?side12 ?side13 ?side14 ?side15 ?side16 ?side17 ?side18 ?side19 ?side20 ?side21 ?side22 ?side23 ?side24 ?side25 ?side26 ?side27 ?side28 ?side29 ?side30 ?side31 ?side32 A27.out).mono ?_
      (case side1 => repeat (first | exact (Kd.R_reads' HO332.out).2.2 | (with_reducible refine Kd.C_alloc ?_ _) | (with_reducible refine Kd.C_drewN ?_ _) | (with_reducible refine Kd.C_drew ?_)))
      (case side2 => exact (Kd.R_reads' HO332.out).2.1)
      (case side3 => repeat (first | exact (Kd.R_reads' HO335.out).2.2 | (with_reducible refine Kd.C_alloc ?_ _) | (with_reducible refine Kd.C_drewN ?_ _) | (with_reducible refine Kd.C_drew ?_)))
      (case side4 => exact (Kd.R_reads' HO335.out).2.1)
      (case side5 => repeat (first | exact (Kd.R_reads' HO338.out).2.2 | (with_reducible refine Kd.C_alloc ?_ _) | (with_reducible refine Kd.C_drewN ?_ _) | (with_reducible refine Kd.C_drew ?_)))
      (case side6 => exact (Kd.R_reads' HO338.out).2.1)
      (case side7 => repeat (first | exact (Kd.S_reads' HO341.out).2.2 | (with_reducible refine Kd.C_alloc ?_ _) | (with_reducible refine Kd.C_drewN ?_ _) | (with_reducible refine Kd.C_drew ?_)))
      (case side8 => exact (Kd.S_reads' HO341.out).2.1)
      (case side9 => repeat (first | exact (Kd.R_reads' HO344.out).2.2 | (with_reducible refine Kd.C_alloc ?_ _) | (with_reducible refine Kd.C_drewN ?_ _) | (with_reducible refine Kd.C_drew ?_)))
      (case side10 => exact (Kd.R_reads' HO344.out).2.1)
      (case side11 => repeat (first | exact (Kd.R_reads' HO347.out).2.2 | (with_reducible refine Kd.C_alloc ?_ _) | (with_reducible refine Kd.C_drewN ?_ _) | (with_reducible refine Kd.C_drew ?_)))
      (case side12 => exact (Kd.R_reads' HO347.out).2.1)
      (case side13 => repeat (first | exact (Kd.S_reads' HO350.out).2.2 | (with_reducible refine Kd.C_alloc ?_ _) | (with_reducible refine Kd.C_drewN ?_ _) | (with_reducible refine Kd.C_drew ?_)))
      (case side14 => exact (Kd.S_reads' HO350.out).2.1)
      (case side15 => repeat (first | exact (Kd.S_reads' HO353.out).2.2 | (with_reducible refine Kd.C_alloc ?_ _) | (with_reducible refine Kd.C_drewN ?_ _) | (with_reducible refine Kd.C_drew ?_)))
      (case side16 => exact (Kd.S_reads' HO353.out).2.1)
      (case side17 => repeat (first | exact (Kd.R_reads' HO389.out).2.2 | (with_reducible refine Kd.C_alloc ?_ _) | (with_reducible refine Kd.C_drewN ?_ _) | (with_reducible refine Kd.C_drew ?_)))
      (case side18 => exact (Kd.R_reads' HO389.out).2.1)
      (case side19 => repeat (first | exact (Kd.R_reads' HO392.out).2.2 | (with_reducible refine Kd.C_alloc ?_ _) | (with_reducible refine Kd.C_drewN ?_ _) | (with_reducible refine Kd.C_drew ?_)))
      (case side20 => exact (Kd.R_reads' HO392.out).2.1)
      (case side21 => repeat (first | exact (Kd.R_reads' HO395.out).2.2 | (with_reducible refine Kd.C_alloc ?_ _) | (with_reducible refine Kd.C_drewN ?_ _) | (with_reducible refine Kd.C_drew ?_)))
      (case side22 => exact (Kd.R_reads' HO395.out).2.1)
      (case side23 => repeat (first | exact (Kd.S_reads' HO398.out).2.2 | (with_reducible refine Kd.C_alloc ?_ _) | (with_reducible refine Kd.C_drewN ?_ _) | (with_reducible refine Kd.C_drew ?_)))
      (case side24 => exact (Kd.S_reads' HO398.out).2.1)
      (case side25 => repeat (first | exact (Kd.R_reads' HO401.out).2.2 | (with_reducible refine Kd.C_alloc ?_ _) | (with_reducible refine Kd.C_drewN ?_ _) | (with_reducible refine Kd.C_drew ?_)))
      (case side26 => exact (Kd.R_reads' HO401.out).2.1)
      (case side27 => repeat (first | exact (Kd.R_reads' HO404.out).2.2 | (with_reducible refine Kd.C_alloc ?_ _) | (with_reducible refine Kd.C_drewN ?_ _) | (with_reducible refine Kd.C_drew ?_)))
      (case side28 => exact (Kd.R_reads' HO404.out).2.1)
      (case side29 => repeat (first | exact (Kd.S_reads' HO407.out).2.2 | (with_reducible refine Kd.C_alloc ?_ _) | (with_reducible refine Kd.C_drewN ?_ _) | (with_reducible refine Kd.C_drew ?_)))
      (case side30 => exact (Kd.S_reads' HO407.out).2.1)
      (case side31 => repeat (first | exact (Kd.S_reads' HO410.out).2.2 | (with_reducible refine Kd.C_alloc ?_ _) | (with_reducible refine Kd.C_drewN ?_ _) | (with_reducible refine Kd.C_drew ?_)))
      (case side32 => exact (Kd.S_reads' HO410.out).2.1)
      rintro e w100 ⟨rfl, hb⟩
      refine ⟨_, rfl, ?_⟩
      have n0_ := Aside0.mk (Kd.R_below (ra_ HO277.out) hb)
      have n1_ := Aside0.mk (Kd.R_below (ra_ HO280.out) hb)
      have n2_ := Aside0.mk (Kd.R_below (ra_ HO283.out) hb)
      have n3_ := Aside0.mk (Kd.S_below (sa_ HO286.out) hb)
      have n4_ := Aside0.mk (Kd.R_below (ra_ HO289.out) hb)
      have n5_ := Aside0.mk (Kd.R_below (ra_ HO292.out) hb)
      have n6_ := Aside0.mk (Kd.S_below (sa_ HO295.out) hb)
      have n7_ := Aside0.mk (Kd.S_below (sa_ HO298.out) hb)
      have n8_ := Aside0.mk (Kd.R_below (ra_ HO304.out) hb)
      have n9_ := Aside0.mk (Kd.R_below (ra_ HO307.out) hb)
      have n10_ := Aside0.mk (Kd.R_below (ra_ HO310.out) hb)
      have n11_ := Aside0.mk (Kd.S_below (sa_ HO313.out) hb)
      have n12_ := Aside0.mk (Kd.R_below (ra_ HO316.out) hb)
      have n13_ := Aside0.mk (Kd.R_below (ra_ HO319.out) hb)
      have n14_ := Aside0.mk (Kd.S_below (sa_ HO322.out) hb)
      have n15_ := Aside0.mk (Kd.S_below (sa_ HO325.out) hb)
      have n16_ := Aside0.mk (Kd.R_below (ra_ HO332.out) hb)
      have n17_ := Aside0.mk (Kd.R_below (ra_ HO335.out) hb)
      have n18_ := Aside0.mk (Kd.R_below (ra_ HO338.out) hb)
      have n19_ := Aside0.mk (Kd.S_below (sa_ HO341.out) hb)
      have n20_ := Aside0.mk (Kd.R_below (ra_ HO344.out) hb)
      have n21_ := Aside0.mk (Kd.R_below (ra_ HO347.out) hb)
      have n22_ := Aside0.mk (Kd.S_below (sa_ HO350.out) hb)
      have n23_ := Aside0.mk (Kd.S_below (sa_ HO353.out) hb)
      have n24_ := Aside0.mk (Kd.R_below (ra_ HO360.out) hb)
      have n25_ := Aside0.mk (Kd.R_below (ra_ HO363.out) hb)
      have n26_ := Aside0.mk (Kd.R_below (ra_ HO366.out) hb)
      have n27_ := Aside0.mk (Kd.S_below (sa_ HO369.out) hb)
      have n28_ := Aside0.mk (Kd.R_below (ra_ HO372.out) hb)
      have n29_ := Aside0.mk (Kd.R_below (ra_ HO375.out) hb)
      have n30_ := Aside0.mk (Kd.S_below (sa_ HO378.out) hb)
      have n31_ := Aside0.mk (Kd.S_below (sa_ HO381.out) hb)
      have n32_ := Aside0.mk (Kd.R_below (ra_ HO389.out) hb)
      have n33_ := Aside0.mk (Kd.R_below (ra_ HO392.out) hb)
      have n34_ := Aside0.mk (Kd.R_below (ra_ HO395.out) hb)
      have n35_ := Aside0.mk (Kd.S_below (sa_ HO398.out) hb)
      have n36_ := Aside0.mk (Kd.R_below (ra_ HO401.out) hb)
      have n37_ := Aside0.mk (Kd.R_below (ra_ HO404.out) hb)
      have n38_ := Aside0.mk (Kd.S_below (sa_ HO407.out) hb)
      have n39_ := Aside0.mk (Kd.S_below (sa_ HO410.out) hb)
      have n40_ := Aside0.mk (bk_ BK269.out hb)
      have n41_ := Aside0.mk (bk_ BK270.out hb)
      have n42_ := Aside0.mk (bk_ BK355.out hb)
      have n43_ := Aside0.mk (bk_ BK383.out hb)
      have n44_ := Aside0.mk (bs_ HB.out hb)
      clear HO277
      clear HO280
      clear HO283
      clear HO286
      clear HO289
      clear HO292
      clear HO295
      clear HO298
      clear HO304
      clear HO307
      clear HO310
      clear HO313
      clear HO316
      clear HO319
      clear HO322
      clear HO325
      clear HO332
      clear HO335
      clear HO338
      clear HO341
      clear HO344
      clear HO347
      clear HO350
      clear HO353
      clear HO360
      clear HO363
      clear HO366
      clear HO369
      clear HO372
      clear HO375
      clear HO378
      clear HO381
      clear HO389
      clear HO392
      clear HO395
      clear HO398
      clear HO401
      clear HO404
      clear HO407
      clear HO410
      clear BK269
      clear BK270
      clear BK355
      clear BK383
      clear HB
      have HO277 := n0_
      have HO280 := n1_
      have HO283 := n2_
      have HO286 := n3_
      have HO289 := n4_
      have HO292 := n5_
      have HO295 := n6_
      have HO298 := n7_
      have HO304 := n8_
      have HO307 := n9_
      have HO310 := n10_
      have HO313 := n11_
      have HO316 := n12_
      have HO319 := n13_
      have HO322 := n14_
      have HO325 := n15_
      have HO332 := n16_
      have HO335 := n17_
      have HO338 := n18_
      have HO341 := n19_
      have HO344 := n20_
      have HO347 := n21_
      have HO350 := n22_
      have HO353 := n23_
      have HO360 := n24_
      have HO363 := n25_
      have HO366 := n26_
      have HO369 := n27_
      have HO372 := n28_
      have HO375 := n29_
      have HO378 := n30_
      have HO381 := n31_
      have HO389 := n32_
      have HO392 := n33_
      have HO395 := n34_
      have HO398 := n35_
      have HO401 := n36_
      have HO404 := n37_
      have HO407 := n38_
      have HO410 := n39_
      have BK269 := n40_
      have BK270 := n41_
      have BK355 := n42_
      have BK383 := n43_
      have HB := n44_
      clear n0_ n1_ n2_ n3_ n4_ n5_ n6_ n7_ n8_ n9_ n10_ n11_ n12_ n13_ n14_ n15_ n16_ n17_ n18_ n19_ n20_ n21_ n22_ n23_ n24_ n25_ n26_ n27_ n28_ n29_ n30_ n31_ n32_ n33_ n34_ n35_ n36_ n37_ n38_ n39_ n40_ n41_ n42_ n43_ n44_
      (try clear hb)
      (try clear hb2)
      (try clear hk)
      (try clear hi)
      refine hK.out _ _ ⟨(blk_cell BK355.out 0).trans rfl, (blk_cell BK355.out 1).trans rfl, (blk_cell BK355.out 2).trans rfl, (blk_cell BK355.out 3).trans rfl, (blk_cell BK355.out 4).trans rfl, (blk_cell BK355.out 5).trans rfl, (blk_cell BK355.out 6).trans rfl, (blk_cell BK355.out 7).trans rfl, (blk_cell BK355.out 8).trans rfl, (blk_cell BK355.out 9).trans rfl, (blk_cell BK355.out 10).trans rfl, (blk_cell BK269.out 0).trans rfl, (blk_cell BK269.out 1).trans rfl, (blk_cell BK269.out 2).trans rfl, (blk_cell BK269.out 3).trans rfl, (blk_cell BK269.out 4).trans rfl, (blk_cell BK269.out 5).trans rfl, (blk_cell BK269.out 6).trans rfl, (blk_cell BK269.out 7).trans rfl, (blk_cell BK269.out 8).trans rfl, (blk_cell BK269.out 9).trans rfl, (blk_cell BK269.out 10).trans rfl⟩ (fun hHeld => ?_)
      clear hK K
      refine norm_ (a' := ?_) ?_ ?_
      rotate_left
      ·show Act.put _ (some 38) _ = _
       simp only [Act.put, List.setIfInBounds_toArray, List.set_cons_zero, List.set_cons_succ, i64_w, i32_w]
       rfl
      refine pure_ (i := 4) (N := some 39) (v := ?_) (a' := ?_) (bt_ 5 31) rfl rfl (by kernel_rfl) (fun _ _ _ h => h) (Or.inl ⟨by rfl, ?_⟩) ?_ ?_
      rotate_left
      ·intro w'
       go_simp
       with_reducible rfl
      rotate_left
      ·simp only [Act.put, List.setIfInBounds_toArray, List.set_cons_zero, List.set_cons_succ, i64_w, i32_w]
       rfl
      refine done_ (by kernel_rfl) ?_
      try go_wp2
      have n0_ := Aside0.mk (Kd.R_drew HO277.out)
      have n1_ := Aside0.mk (Kd.R_drew HO280.out)
      have n2_ := Aside0.mk (Kd.R_drew HO283.out)
      have n3_ := Aside0.mk (Kd.S_drew HO286.out)
      have n4_ := Aside0.mk (Kd.R_drew HO289.out)
      have n5_ := Aside0.mk (Kd.R_drew HO292.out)
      have n6_ := Aside0.mk (Kd.S_drew HO295.out)
      have n7_ := Aside0.mk (Kd.S_drew HO298.out)
      have n8_ := Aside0.mk (Kd.R_drew HO304.out)
      have n9_ := Aside0.mk (Kd.R_drew HO307.out)
      have n10_ := Aside0.mk (Kd.R_drew HO310.out)
      have n11_ := Aside0.mk (Kd.S_drew HO313.out)
      have n12_ := Aside0.mk (Kd.R_drew HO316.out)
      have n13_ := Aside0.mk (Kd.R_drew HO319.out)
      have n14_ := Aside0.mk (Kd.S_drew HO322.out)
      have n15_ := Aside0.mk (Kd.S_drew HO325.out)
      have n16_ := Aside0.mk (Kd.R_drew HO332.out)
      have n17_ := Aside0.mk (Kd.R_drew HO335.out)
      have n18_ := Aside0.mk (Kd.R_drew HO338.out)
      have n19_ := Aside0.mk (Kd.S_drew HO341.out)
      have n20_ := Aside0.mk (Kd.R_drew HO344.out)
      have n21_ := Aside0.mk (Kd.R_drew HO347.out)
      have n22_ := Aside0.mk (Kd.S_drew HO350.out)
      have n23_ := Aside0.mk (Kd.S_drew HO353.out)
      have n24_ := Aside0.mk (Kd.R_drew HO360.out)
      have n25_ := Aside0.mk (Kd.R_drew HO363.out)
      have n26_ := Aside0.mk (Kd.R_drew HO366.out)
      have n27_ := Aside0.mk (Kd.S_drew HO369.out)
      have n28_ := Aside0.mk (Kd.R_drew HO372.out)
      have n29_ := Aside0.mk (Kd.R_drew HO375.out)
      have n30_ := Aside0.mk (Kd.S_drew HO378.out)
      have n31_ := Aside0.mk (Kd.S_drew HO381.out)
      have n32_ := Aside0.mk (Kd.R_drew HO389.out)
      have n33_ := Aside0.mk (Kd.R_drew HO392.out)
      have n34_ := Aside0.mk (Kd.R_drew HO395.out)
      have n35_ := Aside0.mk (Kd.S_drew HO398.out)
      have n36_ := Aside0.mk (Kd.R_drew HO401.out)
      have n37_ := Aside0.mk (Kd.R_drew HO404.out)
      have n38_ := Aside0.mk (Kd.S_drew HO407.out)
      have n39_ := Aside0.mk (Kd.S_drew HO410.out)
      have n40_ := Aside0.mk (blk_drew BK269.out)
      have n41_ := Aside0.mk (blk_drew BK270.out)
      have n42_ := Aside0.mk (blk_drew BK355.out)
      have n43_ := Aside0.mk (blk_drew BK383.out)
      have n44_ := Aside0.mk (below_drew1 HB.out)
      clear HO277
      clear HO280
      clear HO283
      clear HO286
      clear HO289
      clear HO292
      clear HO295
      clear HO298
      clear HO304
      clear HO307
      clear HO310
      clear HO313
      clear HO316
      clear HO319
      clear HO322
      clear HO325
      clear HO332
      clear HO335
      clear HO338
      clear HO341
      clear HO344
      clear HO347
      clear HO350
      clear HO353
      clear HO360
      clear HO363
      clear HO366
      clear HO369
      clear HO372
      clear HO375
      clear HO378
      clear HO381
      clear HO389
      clear HO392
      clear HO395
      clear HO398
      clear HO401
      clear HO404
      clear HO407
      clear HO410
      clear BK269
      clear BK270
      clear BK355
      clear BK383
      clear HB
      have HO277 := n0_
      have HO280 := n1_
      have HO283 := n2_
      have HO286 := n3_
      have HO289 := n4_
      have HO292 := n5_
      have HO295 := n6_
      have HO298 := n7_
      have HO304 := n8_
      have HO307 := n9_
      have HO310 := n10_
      have HO313 := n11_
      have HO316 := n12_
      have HO319 := n13_
      have HO322 := n14_
      have HO325 := n15_
      have HO332 := n16_
      have HO335 := n17_
      have HO338 := n18_
      have HO341 := n19_
      have HO344 := n20_
      have HO347 := n21_
      have HO350 := n22_
      have HO353 := n23_
      have HO360 := n24_
      have HO363 := n25_
      have HO366 := n26_
      have HO369 := n27_
      have HO372 := n28_
      have HO375 := n29_
      have HO378 := n30_
      have HO381 := n31_
      have HO389 := n32_
      have HO392 := n33_
      have HO395 := n34_
      have HO398 := n35_
      have HO401 := n36_
      have HO404 := n37_
      have HO407 := n38_
      have HO410 := n39_
      have BK269 := n40_
      have BK270 := n41_
      have BK355 := n42_
      have BK383 := n43_
      have HB := n44_
      clear n0_ n1_ n2_ n3_ n4_ n5_ n6_ n7_ n8_ n9_ n10_ n11_ n12_ n13_ n14_ n15_ n16_ n17_ n18_ n19_ n20_ n21_ n22_ n23_ n24_ n25_ n26_ n27_ n28_ n29_ n30_ n31_ n32_ n33_ n34_ n35_ n36_ n37_ n38_ n39_ n40_ n41_ n42_ n43_ n44_
      refine start_ (n := 5) (S := fun w' => w'.cell? ⟨gb383, 0, none⟩ = some (.int .i64 t356) ∧ w'.cell? ⟨gb383, 1, none⟩ = some (.int .i64 t357) ∧ w'.cell? ⟨gb383, 2, none⟩ = some (.slice Ao80 t358.length co80) ∧ w'.cell? ⟨gb383, 3, none⟩ = some (.slice Ao81 t361.length co81) ∧ w'.cell? ⟨gb383, 4, none⟩ = some (.slice Ao82 t364.length co82) ∧ w'.cell? ⟨gb383, 5, none⟩ = some (.slice Ao83 t367.length co83) ∧ w'.cell? ⟨gb383, 6, none⟩ = some (.slice Ao84 t370.length co84) ∧ w'.cell? ⟨gb383, 7, none⟩ = some (.slice Ao85 t373.length co85) ∧ w'.cell? ⟨gb383, 8, none⟩ = some (.slice Ao86 t376.length co86) ∧ w'.cell? ⟨gb383, 9, none⟩ = some (.slice Ao87 t379.length co87) ∧ w'.cell? ⟨gb383, 10, none⟩ = some (.int .i64 t382) ∧ w'.cell? ⟨gb270, 0, none⟩ = some (.int .i64 a1_0) ∧ w'.cell? ⟨gb270, 1, none⟩ = some (.int .i64 a1_1) ∧ w'.cell? ⟨gb270, 2, none⟩ = some (.slice A1_2 l1_2.length c1_2) ∧ w'.cell? ⟨gb270, 3, none⟩ = some (.slice A1_3 l1_3.length c1_3) ∧ w'.cell? ⟨gb270, 4, none⟩ = some (.slice A1_4 l1_4.length c1_4) ∧ w'.cell? ⟨gb270, 5, none⟩ = some (.slice A1_5 l1_5.length c1_5) ∧ w'.cell? ⟨gb270, 6, none⟩ = some (.slice A1_6 l1_6.length c1_6) ∧ w'.cell? ⟨gb270, 7, none⟩ = some (.slice A1_7 l1_7.length c1_7) ∧ w'.cell? ⟨gb270, 8, none⟩ = some (.slice A1_8 l1_8.length c1_8) ∧ w'.cell? ⟨gb270, 9, none⟩ = some (.slice A1_9 l1_9.length c1_9) ∧ w'.cell? ⟨gb270, 10, none⟩ = some (.int .i64 a1_10)) (ds := []) #[false, false, false, false, false] (by kernel_rfl) rfl rfl ⟨(blk_cell BK383.out 0).trans rfl, (blk_cell BK383.out 1).trans rfl, (blk_cell BK383.out 2).trans rfl, (blk_cell BK383.out 3).trans rfl, (blk_cell BK383.out 4).trans rfl, (blk_cell BK383.out 5).trans rfl, (blk_cell BK383.out 6).trans rfl, (blk_cell BK383.out 7).trans rfl, (blk_cell BK383.out 8).trans rfl, (blk_cell BK383.out 9).trans rfl, (blk_cell BK383.out 10).trans rfl, (blk_cell BK270.out 0).trans rfl, (blk_cell BK270.out 1).trans rfl, (blk_cell BK270.out 2).trans rfl, (blk_cell BK270.out 3).trans rfl, (blk_cell BK270.out 4).trans rfl, (blk_cell BK270.out 5).trans rfl, (blk_cell BK270.out 6).trans rfl, (blk_cell BK270.out 7).trans rfl, (blk_cell BK270.out 8).trans rfl, (blk_cell BK270.out 9).trans rfl, (blk_cell BK270.out 10).trans rfl⟩ (fun hHeld => ?_)
      generalize w100.drew = w101 at HO277 HO280 HO283 HO286 HO289 HO292 HO295 HO298 HO304 HO307 HO310 HO313 HO316 HO319 HO322 HO325 HO332 HO335 HO338 HO341 HO344 HO347 HO350 HO353 HO360 HO363 HO366 HO369 HO372 HO375 HO378 HO381 HO389 HO392 HO395 HO398 HO401 HO404 HO407 HO410 BK269 BK270 BK355 BK383 HB hHeld ⊢
      refine take_ (i := 0) (N := some 40) (v := ?_) (a' := ?_) (bt_ 5 1) rfl rfl (by kernel_rfl) (fun _ _ _ h => h) (Or.inl ⟨by rfl, ?_⟩) hHeld ?_ ?_
      rotate_left
      ·rintro w' ⟨s0, s1, s2, s3, s4, s5, s6, s7, s8, s9, s10, s11, s12, s13, s14, s15, s16, s17, s18, s19, s20, s21⟩
       go_simp
       with_reducible rfl
      rotate_left
      ·simp only [Act.put, List.setIfInBounds_toArray, List.set_cons_zero, List.set_cons_succ, i64_w, i32_w]
       rfl
      refine take_ (i := 1) (N := some 41) (v := ?_) (a' := ?_) (bt_ 5 3) rfl rfl (by kernel_rfl) (fun _ _ _ h => h) (Or.inl ⟨by rfl, ?_⟩) hHeld ?_ ?_
      rotate_left
      ·rintro w' ⟨s0, s1, s2, s3, s4, s5, s6, s7, s8, s9, s10, s11, s12, s13, s14, s15, s16, s17, s18, s19, s20, s21⟩
       go_simp
       with_reducible rfl
      rotate_left
      ·simp only [Act.put, List.setIfInBounds_toArray, List.set_cons_zero, List.set_cons_succ, i64_w, i32_w]
       rfl
      refine one_ (i := 2) (N := some 42) (bt_ 5 7) rfl rfl (by kernel_rfl) (by decide) (fun K hK => ?_)
      refine goes_ Try.func50 (by kernel_rfl) rfl #[.agg #[.int .i64 a1_0, .int .i64 a1_1, .slice A1_2 l1_2.length c1_2, .slice A1_3 l1_3.length c1_3, .slice A1_4 l1_4.length c1_4, .slice A1_5 l1_5.length c1_5, .slice A1_6 l1_6.length c1_6, .slice A1_7 l1_7.length c1_7, .slice A1_8 l1_8.length c1_8, .slice A1_9 l1_9.length c1_9, .int .i64 a1_10]] (by rfl) rfl rfl (by (try simp only [List.map_toArray, List.map_cons, List.map_nil]); first | done | rfl | (simp only [List.length_drop, List.length_take]; rfl)) ?_
      with_reducible refine (laws_toNet.calls k a1_0 a1_1 _ _ l1_2 _ _ l1_3 _ _ l1_4 _ _ l1_5 _ _ l1_6 _ _ l1_7 _ _ l1_8 _ _ l1_9 a1_10 t413 t414 t415 t418 t421 t424 t427 t430 t433 t436 t439 _ ?side1 ?side2 ?side3 ?side4 ?side5 ?side6 ?side7 ?side8 ?side9 ?side10 ?side11 ?side12 ?side13 ?side14 ?side15 ?side16 A29.out).mono ?_
      (case side1 => exact cb_ HR1_2.out HB.out)
      (case side2 => exact HC1_2.out)
      (case side3 => exact cb_ HR1_3.out HB.out)
      (case side4 => exact HC1_3.out)
      (case side5 => exact cb_ HR1_4.out HB.out)
      (case side6 => exact HC1_4.out)
      (case side7 => exact cb_ HR1_5.out HB.out)
      (case side8 => exact HC1_5.out)
      (case side9 => exact cb_ HR1_6.out HB.out)
      (case side10 => exact HC1_6.out)
      (case side11 => exact cb_ HR1_7.out HB.out)
      (case side12 => exact HC1_7.out)
      (case side13 => exact cb_ HR1_8.out HB.out)
      (case side14 => exact HC1_8.out)
      (case side15 => exact cb_ HR1_9.out HB.out)
      (case side16 => exact HC1_9.out)
      rintro e w102 ⟨v416, v419, v422, v425, v428, v431, v434, v437, rfl, ho0, ho1, ho2, ho3, ho4, ho5, ho6, ho7, hb⟩
      refine ⟨_, rfl, ?_⟩
      have n0_ := Aside0.mk (Kd.R_mono (Kd.R_told (Kd.R_told (Kd.R_told (Kd.R_told (Kd.R_told (Kd.R_old (ra_ HO277.out) hb) (Kd.R_base ho0)) (Kd.R_base ho1)) (Kd.R_base ho2)) (Kd.R_base ho4)) (Kd.R_base ho5)) (fun _ h_ => h_.1))
      have n1_ := Aside0.mk (Kd.R_mono (Kd.R_told (Kd.R_told (Kd.R_told (Kd.R_told (Kd.R_told (Kd.R_old (ra_ HO280.out) hb) (Kd.R_base ho0)) (Kd.R_base ho1)) (Kd.R_base ho2)) (Kd.R_base ho4)) (Kd.R_base ho5)) (fun _ h_ => h_.1))
      have n2_ := Aside0.mk (Kd.R_mono (Kd.R_told (Kd.R_told (Kd.R_told (Kd.R_told (Kd.R_told (Kd.R_old (ra_ HO283.out) hb) (Kd.R_base ho0)) (Kd.R_base ho1)) (Kd.R_base ho2)) (Kd.R_base ho4)) (Kd.R_base ho5)) (fun _ h_ => h_.1))
      have n3_ := Aside0.mk (Kd.S_mono (Kd.S_told (Kd.S_told (Kd.S_told (Kd.S_old (sa_ HO286.out) hb) (Kd.S_base ho3)) (Kd.S_base ho6)) (Kd.S_base ho7)) (fun _ h_ => h_.1))
      have n4_ := Aside0.mk (Kd.R_mono (Kd.R_told (Kd.R_told (Kd.R_told (Kd.R_told (Kd.R_told (Kd.R_old (ra_ HO289.out) hb) (Kd.R_base ho0)) (Kd.R_base ho1)) (Kd.R_base ho2)) (Kd.R_base ho4)) (Kd.R_base ho5)) (fun _ h_ => h_.1))
      have n5_ := Aside0.mk (Kd.R_mono (Kd.R_told (Kd.R_told (Kd.R_told (Kd.R_told (Kd.R_told (Kd.R_old (ra_ HO292.out) hb) (Kd.R_base ho0)) (Kd.R_base ho1)) (Kd.R_base ho2)) (Kd.R_base ho4)) (Kd.R_base ho5)) (fun _ h_ => h_.1))
      have n6_ := Aside0.mk (Kd.S_mono (Kd.S_told (Kd.S_told (Kd.S_told (Kd.S_old (sa_ HO295.out) hb) (Kd.S_base ho3)) (Kd.S_base ho6)) (Kd.S_base ho7)) (fun _ h_ => h_.1))
      have n7_ := Aside0.mk (Kd.S_mono (Kd.S_told (Kd.S_told (Kd.S_told (Kd.S_old (sa_ HO298.out) hb) (Kd.S_base ho3)) (Kd.S_base ho6)) (Kd.S_base ho7)) (fun _ h_ => h_.1))
      have n8_ := Aside0.mk (Kd.R_mono (Kd.R_told (Kd.R_told (Kd.R_told (Kd.R_told (Kd.R_told (Kd.R_old (ra_ HO304.out) hb) (Kd.R_base ho0)) (Kd.R_base ho1)) (Kd.R_base ho2)) (Kd.R_base ho4)) (Kd.R_base ho5)) (fun _ h_ => h_.1))
      have n9_ := Aside0.mk (Kd.R_mono (Kd.R_told (Kd.R_told (Kd.R_told (Kd.R_told (Kd.R_told (Kd.R_old (ra_ HO307.out) hb) (Kd.R_base ho0)) (Kd.R_base ho1)) (Kd.R_base ho2)) (Kd.R_base ho4)) (Kd.R_base ho5)) (fun _ h_ => h_.1))
      have n10_ := Aside0.mk (Kd.R_mono (Kd.R_told (Kd.R_told (Kd.R_told (Kd.R_told (Kd.R_told (Kd.R_old (ra_ HO310.out) hb) (Kd.R_base ho0)) (Kd.R_base ho1)) (Kd.R_base ho2)) (Kd.R_base ho4)) (Kd.R_base ho5)) (fun _ h_ => h_.1))
      have n11_ := Aside0.mk (Kd.S_mono (Kd.S_told (Kd.S_told (Kd.S_told (Kd.S_old (sa_ HO313.out) hb) (Kd.S_base ho3)) (Kd.S_base ho6)) (Kd.S_base ho7)) (fun _ h_ => h_.1))
      have n12_ := Aside0.mk (Kd.R_mono (Kd.R_told (Kd.R_told (Kd.R_told (Kd.R_told (Kd.R_told (Kd.R_old (ra_ HO316.out) hb) (Kd.R_base ho0)) (Kd.R_base ho1)) (Kd.R_base ho2)) (Kd.R_base ho4)) (Kd.R_base ho5)) (fun _ h_ => h_.1))
      have n13_ := Aside0.mk (Kd.R_mono (Kd.R_told (Kd.R_told (Kd.R_told (Kd.R_told (Kd.R_told (Kd.R_old (ra_ HO319.out) hb) (Kd.R_base ho0)) (Kd.R_base ho1)) (Kd.R_base ho2)) (Kd.R_base ho4)) (Kd.R_base ho5)) (fun _ h_ => h_.1))
      have n14_ := Aside0.mk (Kd.S_mono (Kd.S_told (Kd.S_told (Kd.S_told (Kd.S_old (sa_ HO322.out) hb) (Kd.S_base ho3)) (Kd.S_base ho6)) (Kd.S_base ho7)) (fun _ h_ => h_.1))
      have n15_ := Aside0.mk (Kd.S_mono (Kd.S_told (Kd.S_told (Kd.S_told (Kd.S_old (sa_ HO325.out) hb) (Kd.S_base ho3)) (Kd.S_base ho6)) (Kd.S_base ho7)) (fun _ h_ => h_.1))
      have n16_ := Aside0.mk (Kd.R_mono (Kd.R_told (Kd.R_told (Kd.R_told (Kd.R_told (Kd.R_told (Kd.R_old (ra_ HO332.out) hb) (Kd.R_base ho0)) (Kd.R_base ho1)) (Kd.R_base ho2)) (Kd.R_base ho4)) (Kd.R_base ho5)) (fun _ h_ => h_.1))
      have n17_ := Aside0.mk (Kd.R_mono (Kd.R_told (Kd.R_told (Kd.R_told (Kd.R_told (Kd.R_told (Kd.R_old (ra_ HO335.out) hb) (Kd.R_base ho0)) (Kd.R_base ho1)) (Kd.R_base ho2)) (Kd.R_base ho4)) (Kd.R_base ho5)) (fun _ h_ => h_.1))
      have n18_ := Aside0.mk (Kd.R_mono (Kd.R_told (Kd.R_told (Kd.R_told (Kd.R_told (Kd.R_told (Kd.R_old (ra_ HO338.out) hb) (Kd.R_base ho0)) (Kd.R_base ho1)) (Kd.R_base ho2)) (Kd.R_base ho4)) (Kd.R_base ho5)) (fun _ h_ => h_.1))
      have n19_ := Aside0.mk (Kd.S_mono (Kd.S_told (Kd.S_told (Kd.S_told (Kd.S_old (sa_ HO341.out) hb) (Kd.S_base ho3)) (Kd.S_base ho6)) (Kd.S_base ho7)) (fun _ h_ => h_.1))
      have n20_ := Aside0.mk (Kd.R_mono (Kd.R_told (Kd.R_told (Kd.R_told (Kd.R_told (Kd.R_told (Kd.R_old (ra_ HO344.out) hb) (Kd.R_base ho0)) (Kd.R_base ho1)) (Kd.R_base ho2)) (Kd.R_base ho4)) (Kd.R_base ho5)) (fun _ h_ => h_.1))
      have n21_ := Aside0.mk (Kd.R_mono (Kd.R_told (Kd.R_told (Kd.R_told (Kd.R_told (Kd.R_told (Kd.R_old (ra_ HO347.out) hb) (Kd.R_base ho0)) (Kd.R_base ho1)) (Kd.R_base ho2)) (Kd.R_base ho4)) (Kd.R_base ho5)) (fun _ h_ => h_.1))
      have n22_ := Aside0.mk (Kd.S_mono (Kd.S_told (Kd.S_told (Kd.S_told (Kd.S_old (sa_ HO350.out) hb) (Kd.S_base ho3)) (Kd.S_base ho6)) (Kd.S_base ho7)) (fun _ h_ => h_.1))
      have n23_ := Aside0.mk (Kd.S_mono (Kd.S_told (Kd.S_told (Kd.S_told (Kd.S_old (sa_ HO353.out) hb) (Kd.S_base ho3)) (Kd.S_base ho6)) (Kd.S_base ho7)) (fun _ h_ => h_.1))
      have n24_ := Aside0.mk (Kd.R_mono (Kd.R_told (Kd.R_told (Kd.R_told (Kd.R_told (Kd.R_told (Kd.R_old (ra_ HO360.out) hb) (Kd.R_base ho0)) (Kd.R_base ho1)) (Kd.R_base ho2)) (Kd.R_base ho4)) (Kd.R_base ho5)) (fun _ h_ => h_.1))
      have n25_ := Aside0.mk (Kd.R_mono (Kd.R_told (Kd.R_told (Kd.R_told (Kd.R_told (Kd.R_told (Kd.R_old (ra_ HO363.out) hb) (Kd.R_base ho0)) (Kd.R_base ho1)) (Kd.R_base ho2)) (Kd.R_base ho4)) (Kd.R_base ho5)) (fun _ h_ => h_.1))
      have n26_ := Aside0.mk (Kd.R_mono (Kd.R_told (Kd.R_told (Kd.R_told (Kd.R_told (Kd.R_told (Kd.R_old (ra_ HO366.out) hb) (Kd.R_base ho0)) (Kd.R_base ho1)) (Kd.R_base ho2)) (Kd.R_base ho4)) (Kd.R_base ho5)) (fun _ h_ => h_.1))
      have n27_ := Aside0.mk (Kd.S_mono (Kd.S_told (Kd.S_told (Kd.S_told (Kd.S_old (sa_ HO369.out) hb) (Kd.S_base ho3)) (Kd.S_base ho6)) (Kd.S_base ho7)) (fun _ h_ => h_.1))
      have n28_ := Aside0.mk (Kd.R_mono (Kd.R_told (Kd.R_told (Kd.R_told (Kd.R_told (Kd.R_told (Kd.R_old (ra_ HO372.out) hb) (Kd.R_base ho0)) (Kd.R_base ho1)) (Kd.R_base ho2)) (Kd.R_base ho4)) (Kd.R_base ho5)) (fun _ h_ => h_.1))
      have n29_ := Aside0.mk (Kd.R_mono (Kd.R_told (Kd.R_told (Kd.R_told (Kd.R_told (Kd.R_told (Kd.R_old (ra_ HO375.out) hb) (Kd.R_base ho0)) (Kd.R_base ho1)) (Kd.R_base ho2)) (Kd.R_base ho4)) (Kd.R_base ho5)) (fun _ h_ => h_.1))
      have n30_ := Aside0.mk (Kd.S_mono (Kd.S_told (Kd.S_told (Kd.S_told (Kd.S_old (sa_ HO378.out) hb) (Kd.S_base ho3)) (Kd.S_base ho6)) (Kd.S_base ho7)) (fun _ h_ => h_.1))
      have n31_ := Aside0.mk (Kd.S_mono (Kd.S_told (Kd.S_told (Kd.S_told (Kd.S_old (sa_ HO381.out) hb) (Kd.S_base ho3)) (Kd.S_base ho6)) (Kd.S_base ho7)) (fun _ h_ => h_.1))
      have n32_ := Aside0.mk (Kd.R_mono (Kd.R_told (Kd.R_told (Kd.R_told (Kd.R_told (Kd.R_told (Kd.R_old (ra_ HO389.out) hb) (Kd.R_base ho0)) (Kd.R_base ho1)) (Kd.R_base ho2)) (Kd.R_base ho4)) (Kd.R_base ho5)) (fun _ h_ => h_.1))
      have n33_ := Aside0.mk (Kd.R_mono (Kd.R_told (Kd.R_told (Kd.R_told (Kd.R_told (Kd.R_told (Kd.R_old (ra_ HO392.out) hb) (Kd.R_base ho0)) (Kd.R_base ho1)) (Kd.R_base ho2)) (Kd.R_base ho4)) (Kd.R_base ho5)) (fun _ h_ => h_.1))
      have n34_ := Aside0.mk (Kd.R_mono (Kd.R_told (Kd.R_told (Kd.R_told (Kd.R_told (Kd.R_told (Kd.R_old (ra_ HO395.out) hb) (Kd.R_base ho0)) (Kd.R_base ho1)) (Kd.R_base ho2)) (Kd.R_base ho4)) (Kd.R_base ho5)) (fun _ h_ => h_.1))
      have n35_ := Aside0.mk (Kd.S_mono (Kd.S_told (Kd.S_told (Kd.S_told (Kd.S_old (sa_ HO398.out) hb) (Kd.S_base ho3)) (Kd.S_base ho6)) (Kd.S_base ho7)) (fun _ h_ => h_.1))
      have n36_ := Aside0.mk (Kd.R_mono (Kd.R_told (Kd.R_told (Kd.R_told (Kd.R_told (Kd.R_told (Kd.R_old (ra_ HO401.out) hb) (Kd.R_base ho0)) (Kd.R_base ho1)) (Kd.R_base ho2)) (Kd.R_base ho4)) (Kd.R_base ho5)) (fun _ h_ => h_.1))
      have n37_ := Aside0.mk (Kd.R_mono (Kd.R_told (Kd.R_told (Kd.R_told (Kd.R_told (Kd.R_told (Kd.R_old (ra_ HO404.out) hb) (Kd.R_base ho0)) (Kd.R_base ho1)) (Kd.R_base ho2)) (Kd.R_base ho4)) (Kd.R_base ho5)) (fun _ h_ => h_.1))
      have n38_ := Aside0.mk (Kd.S_mono (Kd.S_told (Kd.S_told (Kd.S_told (Kd.S_old (sa_ HO407.out) hb) (Kd.S_base ho3)) (Kd.S_base ho6)) (Kd.S_base ho7)) (fun _ h_ => h_.1))
      have n39_ := Aside0.mk (Kd.S_mono (Kd.S_told (Kd.S_told (Kd.S_told (Kd.S_old (sa_ HO410.out) hb) (Kd.S_base ho3)) (Kd.S_base ho6)) (Kd.S_base ho7)) (fun _ h_ => h_.1))
      have n40_ := Aside0.mk (Kd.R_lower (Kd.R_new' (Kd.R_new' (Kd.R_new' (Kd.R_new' (Kd.R_new' (Kd.R_new' (Kd.R_new' (Kd.R_new' (Kd.R_new' (Kd.R_new' (Kd.R_new' (Kd.R_new' (Kd.R_new' (Kd.R_new' (Kd.R_new' (Kd.R_new' (Kd.R_new' (Kd.R_new' (Kd.R_new' (Kd.R_new' (Kd.R_new' (Kd.R_new' (Kd.R_new' (Kd.R_new' (Kd.R_new' ho0 (rl_ HO277.out)) (rl_ HO280.out)) (rl_ HO283.out)) (rl_ HO289.out)) (rl_ HO292.out)) (rl_ HO304.out)) (rl_ HO307.out)) (rl_ HO310.out)) (rl_ HO316.out)) (rl_ HO319.out)) (rl_ HO332.out)) (rl_ HO335.out)) (rl_ HO338.out)) (rl_ HO344.out)) (rl_ HO347.out)) (rl_ HO360.out)) (rl_ HO363.out)) (rl_ HO366.out)) (rl_ HO372.out)) (rl_ HO375.out)) (rl_ HO389.out)) (rl_ HO392.out)) (rl_ HO395.out)) (rl_ HO401.out)) (rl_ HO404.out)) (bz_ HB.out))
      have n41_ := Aside0.mk (Kd.R_lower (Kd.R_new' (Kd.R_new' (Kd.R_new' (Kd.R_new' (Kd.R_new' (Kd.R_new' (Kd.R_new' (Kd.R_new' (Kd.R_new' (Kd.R_new' (Kd.R_new' (Kd.R_new' (Kd.R_new' (Kd.R_new' (Kd.R_new' (Kd.R_new' (Kd.R_new' (Kd.R_new' (Kd.R_new' (Kd.R_new' (Kd.R_new' (Kd.R_new' (Kd.R_new' (Kd.R_new' (Kd.R_new' ho1 (rl_ HO277.out)) (rl_ HO280.out)) (rl_ HO283.out)) (rl_ HO289.out)) (rl_ HO292.out)) (rl_ HO304.out)) (rl_ HO307.out)) (rl_ HO310.out)) (rl_ HO316.out)) (rl_ HO319.out)) (rl_ HO332.out)) (rl_ HO335.out)) (rl_ HO338.out)) (rl_ HO344.out)) (rl_ HO347.out)) (rl_ HO360.out)) (rl_ HO363.out)) (rl_ HO366.out)) (rl_ HO372.out)) (rl_ HO375.out)) (rl_ HO389.out)) (rl_ HO392.out)) (rl_ HO395.out)) (rl_ HO401.out)) (rl_ HO404.out)) (bz_ HB.out))
      have n42_ := Aside0.mk (Kd.R_lower (Kd.R_new' (Kd.R_new' (Kd.R_new' (Kd.R_new' (Kd.R_new' (Kd.R_new' (Kd.R_new' (Kd.R_new' (Kd.R_new' (Kd.R_new' (Kd.R_new' (Kd.R_new' (Kd.R_new' (Kd.R_new' (Kd.R_new' (Kd.R_new' (Kd.R_new' (Kd.R_new' (Kd.R_new' (Kd.R_new' (Kd.R_new' (Kd.R_new' (Kd.R_new' (Kd.R_new' (Kd.R_new' ho2 (rl_ HO277.out)) (rl_ HO280.out)) (rl_ HO283.out)) (rl_ HO289.out)) (rl_ HO292.out)) (rl_ HO304.out)) (rl_ HO307.out)) (rl_ HO310.out)) (rl_ HO316.out)) (rl_ HO319.out)) (rl_ HO332.out)) (rl_ HO335.out)) (rl_ HO338.out)) (rl_ HO344.out)) (rl_ HO347.out)) (rl_ HO360.out)) (rl_ HO363.out)) (rl_ HO366.out)) (rl_ HO372.out)) (rl_ HO375.out)) (rl_ HO389.out)) (rl_ HO392.out)) (rl_ HO395.out)) (rl_ HO401.out)) (rl_ HO404.out)) (bz_ HB.out))
      have n43_ := Aside0.mk (Kd.S_lower (Kd.S_new' (Kd.S_new' (Kd.S_new' (Kd.S_new' (Kd.S_new' (Kd.S_new' (Kd.S_new' (Kd.S_new' (Kd.S_new' (Kd.S_new' (Kd.S_new' (Kd.S_new' (Kd.S_new' (Kd.S_new' (Kd.S_new' ho3 (sl_ HO286.out)) (sl_ HO295.out)) (sl_ HO298.out)) (sl_ HO313.out)) (sl_ HO322.out)) (sl_ HO325.out)) (sl_ HO341.out)) (sl_ HO350.out)) (sl_ HO353.out)) (sl_ HO369.out)) (sl_ HO378.out)) (sl_ HO381.out)) (sl_ HO398.out)) (sl_ HO407.out)) (sl_ HO410.out)) (bz_ HB.out))
      have n44_ := Aside0.mk (Kd.R_lower (Kd.R_new' (Kd.R_new' (Kd.R_new' (Kd.R_new' (Kd.R_new' (Kd.R_new' (Kd.R_new' (Kd.R_new' (Kd.R_new' (Kd.R_new' (Kd.R_new' (Kd.R_new' (Kd.R_new' (Kd.R_new' (Kd.R_new' (Kd.R_new' (Kd.R_new' (Kd.R_new' (Kd.R_new' (Kd.R_new' (Kd.R_new' (Kd.R_new' (Kd.R_new' (Kd.R_new' (Kd.R_new' ho4 (rl_ HO277.out)) (rl_ HO280.out)) (rl_ HO283.out)) (rl_ HO289.out)) (rl_ HO292.out)) (rl_ HO304.out)) (rl_ HO307.out)) (rl_ HO310.out)) (rl_ HO316.out)) (rl_ HO319.out)) (rl_ HO332.out)) (rl_ HO335.out)) (rl_ HO338.out)) (rl_ HO344.out)) (rl_ HO347.out)) (rl_ HO360.out)) (rl_ HO363.out)) (rl_ HO366.out)) (rl_ HO372.out)) (rl_ HO375.out)) (rl_ HO389.out)) (rl_ HO392.out)) (rl_ HO395.out)) (rl_ HO401.out)) (rl_ HO404.out)) (bz_ HB.out))
      have n45_ := Aside0.mk (Kd.R_lower (Kd.R_new' (Kd.R_new' (Kd.R_new' (Kd.R_new' (Kd.R_new' (Kd.R_new' (Kd.R_new' (Kd.R_new' (Kd.R_new' (Kd.R_new' (Kd.R_new' (Kd.R_new' (Kd.R_new' (Kd.R_new' (Kd.R_new' (Kd.R_new' (Kd.R_new' (Kd.R_new' (Kd.R_new' (Kd.R_new' (Kd.R_new' (Kd.R_new' (Kd.R_new' (Kd.R_new' (Kd.R_new' ho5 (rl_ HO277.out)) (rl_ HO280.out)) (rl_ HO283.out)) (rl_ HO289.out)) (rl_ HO292.out)) (rl_ HO304.out)) (rl_ HO307.out)) (rl_ HO310.out)) (rl_ HO316.out)) (rl_ HO319.out)) (rl_ HO332.out)) (rl_ HO335.out)) (rl_ HO338.out)) (rl_ HO344.out)) (rl_ HO347.out)) (rl_ HO360.out)) (rl_ HO363.out)) (rl_ HO366.out)) (rl_ HO372.out)) (rl_ HO375.out)) (rl_ HO389.out)) (rl_ HO392.out)) (rl_ HO395.out)) (rl_ HO401.out)) (rl_ HO404.out)) (bz_ HB.out))
      have n46_ := Aside0.mk (Kd.S_lower (Kd.S_new' (Kd.S_new' (Kd.S_new' (Kd.S_new' (Kd.S_new' (Kd.S_new' (Kd.S_new' (Kd.S_new' (Kd.S_new' (Kd.S_new' (Kd.S_new' (Kd.S_new' (Kd.S_new' (Kd.S_new' (Kd.S_new' ho6 (sl_ HO286.out)) (sl_ HO295.out)) (sl_ HO298.out)) (sl_ HO313.out)) (sl_ HO322.out)) (sl_ HO325.out)) (sl_ HO341.out)) (sl_ HO350.out)) (sl_ HO353.out)) (sl_ HO369.out)) (sl_ HO378.out)) (sl_ HO381.out)) (sl_ HO398.out)) (sl_ HO407.out)) (sl_ HO410.out)) (bz_ HB.out))
      have n47_ := Aside0.mk (Kd.S_lower (Kd.S_new' (Kd.S_new' (Kd.S_new' (Kd.S_new' (Kd.S_new' (Kd.S_new' (Kd.S_new' (Kd.S_new' (Kd.S_new' (Kd.S_new' (Kd.S_new' (Kd.S_new' (Kd.S_new' (Kd.S_new' (Kd.S_new' ho7 (sl_ HO286.out)) (sl_ HO295.out)) (sl_ HO298.out)) (sl_ HO313.out)) (sl_ HO322.out)) (sl_ HO325.out)) (sl_ HO341.out)) (sl_ HO350.out)) (sl_ HO353.out)) (sl_ HO369.out)) (sl_ HO378.out)) (sl_ HO381.out)) (sl_ HO398.out)) (sl_ HO407.out)) (sl_ HO410.out)) (bz_ HB.out))
      have n48_ := Aside0.mk (bk_ BK269.out hb)
      have n49_ := Aside0.mk (bk_ BK270.out hb)
      have n50_ := Aside0.mk (bk_ BK355.out hb)
      have n51_ := Aside0.mk (bk_ BK383.out hb)
      have n52_ := Aside0.mk (bs_ HB.out hb)
      clear HO277
      clear HO280
      clear HO283
      clear HO286
      clear HO289
      clear HO292
      clear HO295
      clear HO298
      clear HO304
      clear HO307
      clear HO310
      clear HO313
      clear HO316
      clear HO319
      clear HO322
      clear HO325
      clear HO332
      clear HO335
      clear HO338
      clear HO341
      clear HO344
      clear HO347
      clear HO350
      clear HO353
      clear HO360
      clear HO363
      clear HO366
      clear HO369
      clear HO372
      clear HO375
      clear HO378
      clear HO381
      clear HO389
      clear HO392
      clear HO395
      clear HO398
      clear HO401
      clear HO404
      clear HO407
      clear HO410
      clear BK269
      clear BK270
      clear BK355
      clear BK383
      clear HB
      have HO277 := n0_
      have HO280 := n1_
      have HO283 := n2_
      have HO286 := n3_
      have HO289 := n4_
      have HO292 := n5_
      have HO295 := n6_
      have HO298 := n7_
      have HO304 := n8_
      have HO307 := n9_
      have HO310 := n10_
      have HO313 := n11_
      have HO316 := n12_
      have HO319 := n13_
      have HO322 := n14_
      have HO325 := n15_
      have HO332 := n16_
      have HO335 := n17_
      have HO338 := n18_
      have HO341 := n19_
      have HO344 := n20_
      have HO347 := n21_
      have HO350 := n22_
      have HO353 := n23_
      have HO360 := n24_
      have HO363 := n25_
      have HO366 := n26_
      have HO369 := n27_
      have HO372 := n28_
      have HO375 := n29_
      have HO378 := n30_
      have HO381 := n31_
      have HO389 := n32_
      have HO392 := n33_
      have HO395 := n34_
      have HO398 := n35_
      have HO401 := n36_
      have HO404 := n37_
      have HO407 := n38_
      have HO410 := n39_
      have HO417 := n40_
      have HO420 := n41_
      have HO423 := n42_
      have HO426 := n43_
      have HO429 := n44_
      have HO432 := n45_
      have HO435 := n46_
      have HO438 := n47_
      have BK269 := n48_
      have BK270 := n49_
      have BK355 := n50_
      have BK383 := n51_
      have HB := n52_
      clear n0_ n1_ n2_ n3_ n4_ n5_ n6_ n7_ n8_ n9_ n10_ n11_ n12_ n13_ n14_ n15_ n16_ n17_ n18_ n19_ n20_ n21_ n22_ n23_ n24_ n25_ n26_ n27_ n28_ n29_ n30_ n31_ n32_ n33_ n34_ n35_ n36_ n37_ n38_ n39_ n40_ n41_ n42_ n43_ n44_ n45_ n46_ n47_ n48_ n49_ n50_ n51_ n52_
      (try clear hb)
      (try clear hb2)
      (try clear hk)
      (try clear hi)
      (try clear ho0)
      (try clear ho1)
      (try clear ho2)
      (try clear ho3)
      (try clear ho4)
      (try clear ho5)
      (try clear ho6)
      (try clear ho7)
      obtain ⟨Ao103, co103, eo103⟩ := Kd.R_slice HO417.out
      (first | subst eo103 | (injection eo103 with f1_ f2_ f3_; have f4_ := f1_.symm; have f5_ := f3_.symm; clear f1_ f2_ f3_; subst f4_; subst f5_))
      obtain ⟨Ao104, co104, eo104⟩ := Kd.R_slice HO420.out
      (first | subst eo104 | (injection eo104 with f1_ f2_ f3_; have f4_ := f1_.symm; have f5_ := f3_.symm; clear f1_ f2_ f3_; subst f4_; subst f5_))
      obtain ⟨Ao105, co105, eo105⟩ := Kd.R_slice HO423.out
      (first | subst eo105 | (injection eo105 with f1_ f2_ f3_; have f4_ := f1_.symm; have f5_ := f3_.symm; clear f1_ f2_ f3_; subst f4_; subst f5_))
      obtain ⟨Ao106, co106, eo106⟩ := Kd.S_slice HO426.out
      (first | subst eo106 | (injection eo106 with f1_ f2_ f3_; have f4_ := f1_.symm; have f5_ := f3_.symm; clear f1_ f2_ f3_; subst f4_; subst f5_))
      obtain ⟨Ao107, co107, eo107⟩ := Kd.R_slice HO429.out
      (first | subst eo107 | (injection eo107 with f1_ f2_ f3_; have f4_ := f1_.symm; have f5_ := f3_.symm; clear f1_ f2_ f3_; subst f4_; subst f5_))
      obtain ⟨Ao108, co108, eo108⟩ := Kd.R_slice HO432.out
      (first | subst eo108 | (injection eo108 with f1_ f2_ f3_; have f4_ := f1_.symm; have f5_ := f3_.symm; clear f1_ f2_ f3_; subst f4_; subst f5_))
      obtain ⟨Ao109, co109, eo109⟩ := Kd.S_slice HO435.out
      (first | subst eo109 | (injection eo109 with f1_ f2_ f3_; have f4_ := f1_.symm; have f5_ := f3_.symm; clear f1_ f2_ f3_; subst f4_; subst f5_))
      obtain ⟨Ao110, co110, eo110⟩ := Kd.S_slice HO438.out
      (first | subst eo110 | (injection eo110 with f1_ f2_ f3_; have f4_ := f1_.symm; have f5_ := f3_.symm; clear f1_ f2_ f3_; subst f4_; subst f5_))
      refine hK.out _ _ ⟨(blk_cell BK383.out 0).trans rfl, (blk_cell BK383.out 1).trans rfl, (blk_cell BK383.out 2).trans rfl, (blk_cell BK383.out 3).trans rfl, (blk_cell BK383.out 4).trans rfl, (blk_cell BK383.out 5).trans rfl, (blk_cell BK383.out 6).trans rfl, (blk_cell BK383.out 7).trans rfl, (blk_cell BK383.out 8).trans rfl, (blk_cell BK383.out 9).trans rfl, (blk_cell BK383.out 10).trans rfl, (blk_cell BK270.out 0).trans rfl, (blk_cell BK270.out 1).trans rfl, (blk_cell BK270.out 2).trans rfl, (blk_cell BK270.out 3).trans rfl, (blk_cell BK270.out 4).trans rfl, (blk_cell BK270.out 5).trans rfl, (blk_cell BK270.out 6).trans rfl, (blk_cell BK270.out 7).trans rfl, (blk_cell BK270.out 8).trans rfl, (blk_cell BK270.out 9).trans rfl, (blk_cell BK270.out 10).trans rfl⟩ (fun hHeld => ?_)
      clear hK K
      refine norm_ (a' := ?_) ?_ ?_
      rotate_left
      ·show Act.put _ (some 42) _ = _
       simp only [Act.put, List.setIfInBounds_toArray, List.set_cons_zero, List.set_cons_succ, i64_w, i32_w]
       rfl
      refine one_ (i := 3) (N := some 43) (bt_ 5 15) rfl rfl (by kernel_rfl) (by decide) (fun K hK => ?_)
      refine goes_ Try.func52 (by kernel_rfl) rfl #[.agg #[.int .i64 t356, .int .i64 t357, .slice Ao80 t358.length co80, .slice Ao81 t361.length co81, .slice Ao82 t364.length co82, .slice Ao83 t367.length co83, .slice Ao84 t370.length co84, .slice Ao85 t373.length co85, .slice Ao86 t376.length co86, .slice Ao87 t379.length co87, .int .i64 t382], .agg #[.int .i64 t413, .int .i64 t414, .slice Ao103 t415.length co103, .slice Ao104 t418.length co104, .slice Ao105 t421.length co105, .slice Ao106 t424.length co106, .slice Ao107 t427.length co107, .slice Ao108 t430.length co108, .slice Ao109 t433.length co109, .slice Ao110 t436.length co110, .int .i64 t439]] (by rfl) rfl rfl (by (try simp only [List.map_toArray, List.map_cons, List.map_nil]); first | done | rfl | (simp only [List.length_drop, List.length_take]; rfl)) ?_
      with_reducible refine (laws_eqNet.calls k t356 t357 _ _ t358 _ _ t361 _ _ t364 _ _ t367 _ _ t370 _ _ t373 _ _ t376 _ _ t379 t382 t413 t414 _ _ t415 _ _ t418 _ _ t421 _ _ t424 _ _ t427 _ _ t430 _ _ t433 _ _ t436 t439 true _ ?side1 ?side2 ?side3 ?side4 ?side5 ?side6 ?side7 ?side8 ?side9 ?side10 ?side11 ?side12 ?side13 ?side14 ?side15 ?side16 ?side17 ?side18 ?side19 ?side20 ?side21 ?side22 ?side23 ?side24 ?side25 ?side26 ?side27 ?side28 ?side29 ?side30 ?side31 ?side32 A30.out).mono ?_
      (case side1 => repeat (first | exact (Kd.R_reads' HO360.out).2.2 | (with_reducible refine Kd.C_alloc ?_ _) | (with_reducible refine Kd.C_drewN ?_ _) | (with_reducible refine Kd.C_drew ?_)))
      (case side2 => exact (Kd.R_reads' HO360.out).2.1)
      (case side3 => repeat (first | exact (Kd.R_reads' HO363.out).2.2 | (with_reducible refine Kd.C_alloc ?_ _) | (with_reducible refine Kd.C_drewN ?_ _) | (with_reducible refine Kd.C_drew ?_)))
      (case side4 => exact (Kd.R_reads' HO363.out).2.1)
      (case side5 => repeat (first | exact (Kd.R_reads' HO366.out).2.2 | (with_reducible refine Kd.C_alloc ?_ _) | (with_reducible refine Kd.C_drewN ?_ _) | (with_reducible refine Kd.C_drew ?_)))
      (case side6 => exact (Kd.R_reads' HO366.out).2.1)
      (case side7 => repeat (first | exact (Kd.S_reads' HO369.out).2.2 | (with_reducible refine Kd.C_alloc ?_ _) | (with_reducible refine Kd.C_drewN ?_ _) | (with_reducible refine Kd.C_drew ?_)))
      (case side8 => exact (Kd.S_reads' HO369.out).2.1)
      (case side9 => repeat (first | exact (Kd.R_reads' HO372.out).2.2 | (with_reducible refine Kd.C_alloc ?_ _) | (with_reducible refine Kd.C_drewN ?_ _) | (with_reducible refine Kd.C_drew ?_)))
      (case side10 => exact (Kd.R_reads' HO372.out).2.1)
      (case side11 => repeat (first | exact (Kd.R_reads' HO375.out).2.2 | (with_reducible refine Kd.C_alloc ?_ _) | (with_reducible refine Kd.C_drewN ?_ _) | (with_reducible refine Kd.C_drew ?_)))
      (case side12 => exact (Kd.R_reads' HO375.out).2.1)
      (case side13 => repeat (first | exact (Kd.S_reads' HO378.out).2.2 | (with_reducible refine Kd.C_alloc ?_ _) | (with_reducible refine Kd.C_drewN ?_ _) | (with_reducible refine Kd.C_drew ?_)))
      (case side14 => exact (Kd.S_reads' HO378.out).2.1)
      (case side15 => repeat (first | exact (Kd.S_reads' HO381.out).2.2 | (with_reducible refine Kd.C_alloc ?_ _) | (with_reducible refine Kd.C_drewN ?_ _) | (with_reducible refine Kd.C_drew ?_)))
      (case side16 => exact (Kd.S_reads' HO381.out).2.1)
      (case side17 => repeat (first | exact (Kd.R_reads' HO417.out).2.2 | (with_reducible refine Kd.C_alloc ?_ _) | (with_reducible refine Kd.C_drewN ?_ _) | (with_reducible refine Kd.C_drew ?_)))
      (case side18 => exact (Kd.R_reads' HO417.out).2.1)
      (case side19 => repeat (first | exact (Kd.R_reads' HO420.out).2.2 | (with_reducible refine Kd.C_alloc ?_ _) | (with_reducible refine Kd.C_drewN ?_ _) | (with_reducible refine Kd.C_drew ?_)))
      (case side20 => exact (Kd.R_reads' HO420.out).2.1)
      (case side21 => repeat (first | exact (Kd.R_reads' HO423.out).2.2 | (with_reducible refine Kd.C_alloc ?_ _) | (with_reducible refine Kd.C_drewN ?_ _) | (with_reducible refine Kd.C_drew ?_)))
      (case side22 => exact (Kd.R_reads' HO423.out).2.1)
      (case side23 => repeat (first | exact (Kd.S_reads' HO426.out).2.2 | (with_reducible refine Kd.C_alloc ?_ _) | (with_reducible refine Kd.C_drewN ?_ _) | (with_reducible refine Kd.C_drew ?_)))
      (case side24 => exact (Kd.S_reads' HO426.out).2.1)
      (case side25 => repeat (first | exact (Kd.R_reads' HO429.out).2.2 | (with_reducible refine Kd.C_alloc ?_ _) | (with_reducible refine Kd.C_drewN ?_ _) | (with_reducible refine Kd.C_drew ?_)))
      (case side26 => exact (Kd.R_reads' HO429.out).2.1)
      (case side27 => repeat (first | exact (Kd.R_reads' HO432.out).2.2 | (with_reducible refine Kd.C_alloc ?_ _) | (with_reducible refine Kd.C_drewN ?_ _) | (with_reducible refine Kd.C_drew ?_)))
      (case side28 => exact (Kd.R_reads' HO432.out).2.1)
      (case side29 => repeat (first | exact (Kd.S_reads' HO435.out).2.2 | (with_reducible refine Kd.C_alloc ?_ _) | (with_reducible refine Kd.C_drewN ?_ _) | (with_reducible refine Kd.C_drew ?_)))
      (case side30 => exact (Kd.S_reads' HO435.out).2.1)
      (case side31 => repeat (first | exact (Kd.S_reads' HO438.out).2.2 | (with_reducible refine Kd.C_alloc ?_ _) | (with_reducible refine Kd.C_drewN ?_ _) | (with_reducible refine Kd.C_drew ?_)))
      (case side32 => exact (Kd.S_reads' HO438.out).2.1)
      rintro e w111 ⟨rfl, hb⟩
      refine ⟨_, rfl, ?_⟩
      have n0_ := Aside0.mk (Kd.R_below (ra_ HO277.out) hb)
      have n1_ := Aside0.mk (Kd.R_below (ra_ HO280.out) hb)
      have n2_ := Aside0.mk (Kd.R_below (ra_ HO283.out) hb)
      have n3_ := Aside0.mk (Kd.S_below (sa_ HO286.out) hb)
      have n4_ := Aside0.mk (Kd.R_below (ra_ HO289.out) hb)
      have n5_ := Aside0.mk (Kd.R_below (ra_ HO292.out) hb)
      have n6_ := Aside0.mk (Kd.S_below (sa_ HO295.out) hb)
      have n7_ := Aside0.mk (Kd.S_below (sa_ HO298.out) hb)
      have n8_ := Aside0.mk (Kd.R_below (ra_ HO304.out) hb)
      have n9_ := Aside0.mk (Kd.R_below (ra_ HO307.out) hb)
      have n10_ := Aside0.mk (Kd.R_below (ra_ HO310.out) hb)
      have n11_ := Aside0.mk (Kd.S_below (sa_ HO313.out) hb)
      have n12_ := Aside0.mk (Kd.R_below (ra_ HO316.out) hb)
      have n13_ := Aside0.mk (Kd.R_below (ra_ HO319.out) hb)
      have n14_ := Aside0.mk (Kd.S_below (sa_ HO322.out) hb)
      have n15_ := Aside0.mk (Kd.S_below (sa_ HO325.out) hb)
      have n16_ := Aside0.mk (Kd.R_below (ra_ HO332.out) hb)
      have n17_ := Aside0.mk (Kd.R_below (ra_ HO335.out) hb)
      have n18_ := Aside0.mk (Kd.R_below (ra_ HO338.out) hb)
      have n19_ := Aside0.mk (Kd.S_below (sa_ HO341.out) hb)
      have n20_ := Aside0.mk (Kd.R_below (ra_ HO344.out) hb)
      have n21_ := Aside0.mk (Kd.R_below (ra_ HO347.out) hb)
      have n22_ := Aside0.mk (Kd.S_below (sa_ HO350.out) hb)
      have n23_ := Aside0.mk (Kd.S_below (sa_ HO353.out) hb)
      have n24_ := Aside0.mk (Kd.R_below (ra_ HO360.out) hb)
      have n25_ := Aside0.mk (Kd.R_below (ra_ HO363.out) hb)
      have n26_ := Aside0.mk (Kd.R_below (ra_ HO366.out) hb)
      have n27_ := Aside0.mk (Kd.S_below (sa_ HO369.out) hb)
      have n28_ := Aside0.mk (Kd.R_below (ra_ HO372.out) hb)
      have n29_ := Aside0.mk (Kd.R_below (ra_ HO375.out) hb)
      have n30_ := Aside0.mk (Kd.S_below (sa_ HO378.out) hb)
      have n31_ := Aside0.mk (Kd.S_below (sa_ HO381.out) hb)
      have n32_ := Aside0.mk (Kd.R_below (ra_ HO389.out) hb)
      have n33_ := Aside0.mk (Kd.R_below (ra_ HO392.out) hb)
      have n34_ := Aside0.mk (Kd.R_below (ra_ HO395.out) hb)
      have n35_ := Aside0.mk (Kd.S_below (sa_ HO398.out) hb)
      have n36_ := Aside0.mk (Kd.R_below (ra_ HO401.out) hb)
      have n37_ := Aside0.mk (Kd.R_below (ra_ HO404.out) hb)
      have n38_ := Aside0.mk (Kd.S_below (sa_ HO407.out) hb)
      have n39_ := Aside0.mk (Kd.S_below (sa_ HO410.out) hb)
      have n40_ := Aside0.mk (Kd.R_below (ra_ HO417.out) hb)
      have n41_ := Aside0.mk (Kd.R_below (ra_ HO420.out) hb)
      have n42_ := Aside0.mk (Kd.R_below (ra_ HO423.out) hb)
      have n43_ := Aside0.mk (Kd.S_below (sa_ HO426.out) hb)
      have n44_ := Aside0.mk (Kd.R_below (ra_ HO429.out) hb)
      have n45_ := Aside0.mk (Kd.R_below (ra_ HO432.out) hb)
      have n46_ := Aside0.mk (Kd.S_below (sa_ HO435.out) hb)
      have n47_ := Aside0.mk (Kd.S_below (sa_ HO438.out) hb)
      have n48_ := Aside0.mk (bk_ BK269.out hb)
      have n49_ := Aside0.mk (bk_ BK270.out hb)
      have n50_ := Aside0.mk (bk_ BK355.out hb)
      have n51_ := Aside0.mk (bk_ BK383.out hb)
      have n52_ := Aside0.mk (bs_ HB.out hb)
      clear HO277
      clear HO280
      clear HO283
      clear HO286
      clear HO289
      clear HO292
      clear HO295
      clear HO298
      clear HO304
      clear HO307
      clear HO310
      clear HO313
      clear HO316
      clear HO319
      clear HO322
      clear HO325
      clear HO332
      clear HO335
      clear HO338
      clear HO341
      clear HO344
      clear HO347
      clear HO350
      clear HO353
      clear HO360
      clear HO363
      clear HO366
      clear HO369
      clear HO372
      clear HO375
      clear HO378
      clear HO381
      clear HO389
      clear HO392
      clear HO395
      clear HO398
      clear HO401
      clear HO404
      clear HO407
      clear HO410
      clear HO417
      clear HO420
      clear HO423
      clear HO426
      clear HO429
      clear HO432
      clear HO435
      clear HO438
      clear BK269
      clear BK270
      clear BK355
      clear BK383
      clear HB
      have HO277 := n0_
      have HO280 := n1_
      have HO283 := n2_
      have HO286 := n3_
      have HO289 := n4_
      have HO292 := n5_
      have HO295 := n6_
      have HO298 := n7_
      have HO304 := n8_
      have HO307 := n9_
      have HO310 := n10_
      have HO313 := n11_
      have HO316 := n12_
      have HO319 := n13_
      have HO322 := n14_
      have HO325 := n15_
      have HO332 := n16_
      have HO335 := n17_
      have HO338 := n18_
      have HO341 := n19_
      have HO344 := n20_
      have HO347 := n21_
      have HO350 := n22_
      have HO353 := n23_
      have HO360 := n24_
      have HO363 := n25_
      have HO366 := n26_
      have HO369 := n27_
      have HO372 := n28_
      have HO375 := n29_
      have HO378 := n30_
      have HO381 := n31_
      have HO389 := n32_
      have HO392 := n33_
      have HO395 := n34_
      have HO398 := n35_
      have HO401 := n36_
      have HO404 := n37_
      have HO407 := n38_
      have HO410 := n39_
      have HO417 := n40_
      have HO420 := n41_
      have HO423 := n42_
      have HO426 := n43_
      have HO429 := n44_
      have HO432 := n45_
      have HO435 := n46_
      have HO438 := n47_
      have BK269 := n48_
      have BK270 := n49_
      have BK355 := n50_
      have BK383 := n51_
      have HB := n52_
      clear n0_ n1_ n2_ n3_ n4_ n5_ n6_ n7_ n8_ n9_ n10_ n11_ n12_ n13_ n14_ n15_ n16_ n17_ n18_ n19_ n20_ n21_ n22_ n23_ n24_ n25_ n26_ n27_ n28_ n29_ n30_ n31_ n32_ n33_ n34_ n35_ n36_ n37_ n38_ n39_ n40_ n41_ n42_ n43_ n44_ n45_ n46_ n47_ n48_ n49_ n50_ n51_ n52_
      (try clear hb)
      (try clear hb2)
      (try clear hk)
      (try clear hi)
      refine hK.out _ _ ⟨(blk_cell BK383.out 0).trans rfl, (blk_cell BK383.out 1).trans rfl, (blk_cell BK383.out 2).trans rfl, (blk_cell BK383.out 3).trans rfl, (blk_cell BK383.out 4).trans rfl, (blk_cell BK383.out 5).trans rfl, (blk_cell BK383.out 6).trans rfl, (blk_cell BK383.out 7).trans rfl, (blk_cell BK383.out 8).trans rfl, (blk_cell BK383.out 9).trans rfl, (blk_cell BK383.out 10).trans rfl, (blk_cell BK270.out 0).trans rfl, (blk_cell BK270.out 1).trans rfl, (blk_cell BK270.out 2).trans rfl, (blk_cell BK270.out 3).trans rfl, (blk_cell BK270.out 4).trans rfl, (blk_cell BK270.out 5).trans rfl, (blk_cell BK270.out 6).trans rfl, (blk_cell BK270.out 7).trans rfl, (blk_cell BK270.out 8).trans rfl, (blk_cell BK270.out 9).trans rfl, (blk_cell BK270.out 10).trans rfl⟩ (fun hHeld => ?_)
      clear hK K
      refine norm_ (a' := ?_) ?_ ?_
      rotate_left
      ·show Act.put _ (some 43) _ = _
       simp only [Act.put, List.setIfInBounds_toArray, List.set_cons_zero, List.set_cons_succ, i64_w, i32_w]
       rfl
      refine pure_ (i := 4) (N := some 44) (v := ?_) (a' := ?_) (bt_ 5 31) rfl rfl (by kernel_rfl) (fun _ _ _ h => h) (Or.inl ⟨by rfl, ?_⟩) ?_ ?_
      rotate_left
      ·intro w'
       go_simp
       with_reducible rfl
      rotate_left
      ·simp only [Act.put, List.setIfInBounds_toArray, List.set_cons_zero, List.set_cons_succ, i64_w, i32_w]
       rfl
      refine done_ (by kernel_rfl) ?_
      try go_wp2
      go_ret
      exact ⟨fin_, bb_ HB.out⟩
     ·replace c31 := Bool.eq_false_iff.mpr c31
      subst c31
      rw [if_neg (show ¬ (false = true) by decide)] at H
      exact absurd H (by simp)
    ·replace c28 := Bool.eq_false_iff.mpr c28
     subst c28
     rw [if_neg (show ¬ (false = true) by decide)] at H
     exact absurd H (by simp)

end Go.Proofs.Ytogapggfegplkaa.PFnExactSameNet
-- thin
