/- Each function that the law comes to, as a plain function, with the proof that the call in the model gives what that function says (written by a program of this session out of the translation). No condition. -/
import Derived.Test.YthmfjdanmbcgbaaPFnExactWantedPortx0
import Derived.Test.YthmfjdanmbcgbaaPFnExactWantedPortx1
import Derived.Test.YthmfjdanmbcgbaaPFnExactWantedPortx2
import Derived.Test.YthmfjdanmbcgbaaPFnExactWantedPortx3
import Derived.Test.YthmfjdanmbcgbaaPFnExactWantedPortx9
import Derived.Test.YthmfjdanmbcgbaaPFnExactWantedPortx14
namespace Go.Proofs.Ythmfjdanmbcgbaa.PFnExactWantedPort
open Go.RowKit Go.Proofs.YthmfjdanmbcgbaaW.PrintWords Go.Proofs.YthmfjdanmbcgbaaW.PrintLast Go.Proofs.YthmfjdanmbcgbaaW.PrintMore
attribute [local go_sem] max2_int min2_int max_two min_two max_three min_three max_four min_four   -- for this text's walks alone
set_option linter.unusedVariables false
set_option linter.unusedSimpArgs false

/-! ### laws_FnExactWantedPort: function 7 -/
def laws_FnExactWantedPort.f (k : Nat) (a0_0 : Int) (a0_1 : Int) (l0_2 : List Int) (l0_3 : List Int) (l0_4 : List Int) (l0_5 : List (List (S132))) (l0_6 : List Int) (l0_7 : List Int) (l0_8 : List (List (S132))) (l0_9 : List (List (S132))) (a0_10 : Int) (a1 : Int) (a2 : Int) : Option (Bool) := (laws_szNet.f k a0_0 a0_1 l0_2 l0_3 l0_4 l0_5 l0_6 l0_7 l0_8 l0_9 a0_10 1048576).bind fun t440 => (if t440 < 0 then (some true) else ((laws_toNet.f k a0_0 a0_1 l0_2 l0_3 l0_4 l0_5 l0_6 l0_7 l0_8 l0_9 a0_10).bind fun bt441 => ((spec_WantedPort.f k bt441.1 bt441.2.1 bt441.2.2.1 bt441.2.2.2.1 bt441.2.2.2.2.1 bt441.2.2.2.2.2.1 bt441.2.2.2.2.2.2.1 bt441.2.2.2.2.2.2.2.1 bt441.2.2.2.2.2.2.2.2.1 bt441.2.2.2.2.2.2.2.2.2.1 bt441.2.2.2.2.2.2.2.2.2.2 a1 a2).bind fun t468 => ((laws_toNet.f k a0_0 a0_1 l0_2 l0_3 l0_4 l0_5 l0_6 l0_7 l0_8 l0_9 a0_10).bind fun bt469 => ((impl_WantedPort.f k bt469.1 bt469.2.1 bt469.2.2.1 bt469.2.2.2.1 bt469.2.2.2.2.1 bt469.2.2.2.2.2.1 bt469.2.2.2.2.2.2.1 bt469.2.2.2.2.2.2.2.1 bt469.2.2.2.2.2.2.2.2.1 bt469.2.2.2.2.2.2.2.2.2.1 bt469.2.2.2.2.2.2.2.2.2.2 a1 a2).bind fun t497 => (if t497 = t468 then ((laws_toNet.f k a0_0 a0_1 l0_2 l0_3 l0_4 l0_5 l0_6 l0_7 l0_8 l0_9 a0_10).bind fun bt498 => ((laws_eqNet.f k bt469.1 bt469.2.1 bt469.2.2.1 bt469.2.2.2.1 bt469.2.2.2.2.1 bt469.2.2.2.2.2.1 bt469.2.2.2.2.2.2.1 bt469.2.2.2.2.2.2.2.1 bt469.2.2.2.2.2.2.2.2.1 bt469.2.2.2.2.2.2.2.2.2.1 bt469.2.2.2.2.2.2.2.2.2.2 bt498.1 bt498.2.1 bt498.2.2.1 bt498.2.2.2.1 bt498.2.2.2.2.1 bt498.2.2.2.2.2.1 bt498.2.2.2.2.2.2.1 bt498.2.2.2.2.2.2.2.1 bt498.2.2.2.2.2.2.2.2.1 bt498.2.2.2.2.2.2.2.2.2.1 bt498.2.2.2.2.2.2.2.2.2.2).bind fun t525 => (if t525 = true then (some true) else (none)))) else (none)))))))
theorem laws_FnExactWantedPort.mono : ∀ a0 a1 a2 a3 a4 a5 a6 a7 a8 a9 a10 a11 a12 k, LeO (laws_FnExactWantedPort.f k a0 a1 a2 a3 a4 a5 a6 a7 a8 a9 a10 a11 a12) (laws_FnExactWantedPort.f (k + 1) a0 a1 a2 a3 a4 a5 a6 a7 a8 a9 a10 a11 a12) := by
 intro a0 a1 a2 a3 a4 a5 a6 a7 a8 a9 a10 a11 a12 k
 unfold laws_FnExactWantedPort.f
 repeat' first
   | (with_reducible exact impl_WantedPort.mono _ _ _ _ _ _ _ _ _ _ _ _ _ _)
   | (with_reducible exact laws_eqNet.mono _ _ _ _ _ _ _ _ _ _ _ _ _ _ _ _ _ _ _ _ _ _ _)
   | (with_reducible exact laws_szNet.mono _ _ _ _ _ _ _ _ _ _ _ _ _)
   | (with_reducible exact laws_toNet.mono _ _ _ _ _ _ _ _ _ _ _ _)
   | (with_reducible exact spec_WantedPort.mono _ _ _ _ _ _ _ _ _ _ _ _ _ _)
   | (with_reducible exact LeO.refl _)
   | (with_reducible exact LeO.none _)
   | (with_reducible refine LeO.ite ?_ ?_)
   | (with_reducible refine LeO.bind ?_ (fun _ => ?_))
   | exact impl_WantedPort.mono _ _ _ _ _ _ _ _ _ _ _ _ _ _
   | exact laws_eqNet.mono _ _ _ _ _ _ _ _ _ _ _ _ _ _ _ _ _ _ _ _ _ _ _
   | exact laws_szNet.mono _ _ _ _ _ _ _ _ _ _ _ _ _
   | exact laws_toNet.mono _ _ _ _ _ _ _ _ _ _ _ _
   | exact spec_WantedPort.mono _ _ _ _ _ _ _ _ _ _ _ _ _ _
   | exact LeO.none _
   | refine LeO.ite ?_ ?_
   | refine LeO.bind ?_ (fun _ => ?_)
set_option maxHeartbeats 8000000 in
set_option maxRecDepth 100000 in
theorem laws_FnExactWantedPort.calls (k : Nat) (a0_0 : Int) (a0_1 : Int) (A0_2 : Option Addr) (c0_2 : Nat) (l0_2 : List Int) (A0_3 : Option Addr) (c0_3 : Nat) (l0_3 : List Int) (A0_4 : Option Addr) (c0_4 : Nat) (l0_4 : List Int) (A0_5 : Option Addr) (c0_5 : Nat) (l0_5 : List (List (S132))) (A0_6 : Option Addr) (c0_6 : Nat) (l0_6 : List Int) (A0_7 : Option Addr) (c0_7 : Nat) (l0_7 : List Int) (A0_8 : Option Addr) (c0_8 : Nat) (l0_8 : List (List (S132))) (A0_9 : Option Addr) (c0_9 : Nat) (l0_9 : List (List (S132))) (a0_10 : Int) (a1 : Int) (a2 : Int) (r : Bool) (w : World) (hr0_2 : Kd.C (Kd.int .i64) w A0_2 l0_2.length l0_2) (hc0_2 : l0_2.length ≤ c0_2) (hr0_3 : Kd.C (Kd.int .i64) w A0_3 l0_3.length l0_3) (hc0_3 : l0_3.length ≤ c0_3) (hr0_4 : Kd.C (Kd.int .i64) w A0_4 l0_4.length l0_4) (hc0_4 : l0_4.length ≤ c0_4) (hr0_5 : Kd.C (Kd.slice 132 k132) w A0_5 l0_5.length l0_5) (hc0_5 : l0_5.length ≤ c0_5) (hr0_6 : Kd.C (Kd.int .i64) w A0_6 l0_6.length l0_6) (hc0_6 : l0_6.length ≤ c0_6) (hr0_7 : Kd.C (Kd.int .i64) w A0_7 l0_7.length l0_7) (hc0_7 : l0_7.length ≤ c0_7) (hr0_8 : Kd.C (Kd.slice 132 k132) w A0_8 l0_8.length l0_8) (hc0_8 : l0_8.length ≤ c0_8) (hr0_9 : Kd.C (Kd.slice 132 k132) w A0_9 l0_9.length l0_9) (hc0_9 : l0_9.length ≤ c0_9) (h : laws_FnExactWantedPort.f k a0_0 a0_1 l0_2 l0_3 l0_4 l0_5 l0_6 l0_7 l0_8 l0_9 a0_10 a1 a2 = some r) :
  Calls Try.prog 7 #[.agg #[.int .i64 a0_0, .int .i64 a0_1, .slice A0_2 l0_2.length c0_2, .slice A0_3 l0_3.length c0_3, .slice A0_4 l0_4.length c0_4, .slice A0_5 l0_5.length c0_5, .slice A0_6 l0_6.length c0_6, .slice A0_7 l0_7.length c0_7, .slice A0_8 l0_8.length c0_8, .slice A0_9 l0_9.length c0_9, .int .i64 a0_10], .int .i64 a1, .int .i64 a2] w fun e w' => e = .returned (.bool r) ∧ Below w.heap.size w w' := by
 have hu33 := Try.underlying33
 have hu44 := Try.underlying44
 have HR0_2 := Aside0.mk hr0_2
 have HC0_2 := Aside0.mk hc0_2
 clear hr0_2 hc0_2
 have HR0_3 := Aside0.mk hr0_3
 have HC0_3 := Aside0.mk hc0_3
 clear hr0_3 hc0_3
 have HR0_4 := Aside0.mk hr0_4
 have HC0_4 := Aside0.mk hc0_4
 clear hr0_4 hc0_4
 have HR0_5 := Aside0.mk hr0_5
 have HC0_5 := Aside0.mk hc0_5
 clear hr0_5 hc0_5
 have HR0_6 := Aside0.mk hr0_6
 have HC0_6 := Aside0.mk hc0_6
 clear hr0_6 hc0_6
 have HR0_7 := Aside0.mk hr0_7
 have HC0_7 := Aside0.mk hc0_7
 clear hr0_7 hc0_7
 have HR0_8 := Aside0.mk hr0_8
 have HC0_8 := Aside0.mk hc0_8
 clear hr0_8 hc0_8
 have HR0_9 := Aside0.mk hr0_9
 have HC0_9 := Aside0.mk hc0_9
 clear hr0_9 hc0_9
 have HB := Aside0.mk (Below.refl w.heap.size w)
 have H : ((laws_szNet.f k a0_0 a0_1 l0_2 l0_3 l0_4 l0_5 l0_6 l0_7 l0_8 l0_9 a0_10 1048576).bind fun t440 => (if t440 < 0 then (some true) else ((laws_toNet.f k a0_0 a0_1 l0_2 l0_3 l0_4 l0_5 l0_6 l0_7 l0_8 l0_9 a0_10).bind fun bt441 => ((spec_WantedPort.f k bt441.1 bt441.2.1 bt441.2.2.1 bt441.2.2.2.1 bt441.2.2.2.2.1 bt441.2.2.2.2.2.1 bt441.2.2.2.2.2.2.1 bt441.2.2.2.2.2.2.2.1 bt441.2.2.2.2.2.2.2.2.1 bt441.2.2.2.2.2.2.2.2.2.1 bt441.2.2.2.2.2.2.2.2.2.2 a1 a2).bind fun t468 => ((laws_toNet.f k a0_0 a0_1 l0_2 l0_3 l0_4 l0_5 l0_6 l0_7 l0_8 l0_9 a0_10).bind fun bt469 => ((impl_WantedPort.f k bt469.1 bt469.2.1 bt469.2.2.1 bt469.2.2.2.1 bt469.2.2.2.2.1 bt469.2.2.2.2.2.1 bt469.2.2.2.2.2.2.1 bt469.2.2.2.2.2.2.2.1 bt469.2.2.2.2.2.2.2.2.1 bt469.2.2.2.2.2.2.2.2.2.1 bt469.2.2.2.2.2.2.2.2.2.2 a1 a2).bind fun t497 => (if t497 = t468 then ((laws_toNet.f k a0_0 a0_1 l0_2 l0_3 l0_4 l0_5 l0_6 l0_7 l0_8 l0_9 a0_10).bind fun bt498 => ((laws_eqNet.f k bt469.1 bt469.2.1 bt469.2.2.1 bt469.2.2.2.1 bt469.2.2.2.2.1 bt469.2.2.2.2.2.1 bt469.2.2.2.2.2.2.1 bt469.2.2.2.2.2.2.2.1 bt469.2.2.2.2.2.2.2.2.1 bt469.2.2.2.2.2.2.2.2.2.1 bt469.2.2.2.2.2.2.2.2.2.2 bt498.1 bt498.2.1 bt498.2.2.1 bt498.2.2.2.1 bt498.2.2.2.2.1 bt498.2.2.2.2.2.1 bt498.2.2.2.2.2.2.1 bt498.2.2.2.2.2.2.2.1 bt498.2.2.2.2.2.2.2.2.1 bt498.2.2.2.2.2.2.2.2.2.1 bt498.2.2.2.2.2.2.2.2.2.2).bind fun t525 => (if t525 = true then (some true) else (none)))) else (none)))))))) = some r := h
 clear h
 replace H := Option.bind_eq_some_iff.mp H
 obtain ⟨t440, A40, H⟩ := H
 try dsimp only at H
 have A4 := Aside0.mk A40
 clear A40
 by_cases c5 : t440 < 0
 ·rw [if_pos c5] at H
  have c5b0 : decide (t440 < 0) = true := decide_eq_true c5
  clear c5
  obtain rfl := Option.some.inj H
  go_enter Try.func7, Try.ntmps7
  go_wp2_with (first | ((with_reducible refine gate_dst (N := 3) rfl ?_); refine box_event ?hg (N := 3) ?hd (cs := #[.int .i64 a0_0, .int .i64 a0_1, .slice A0_2 l0_2.length c0_2, .slice A0_3 l0_3.length c0_3, .slice A0_4 l0_4.length c0_4, .slice A0_5 l0_5.length c0_5, .slice A0_6 l0_6.length c0_6, .slice A0_7 l0_7.length c0_7, .slice A0_8 l0_8.length c0_8, .slice A0_9 l0_9.length c0_9, .int .i64 a0_10]) (t := 33) ?hr ?_; (case hd => rfl); (case hg => rfl); (case hr => first | (go_simp; done) | (go_simp; rfl)); intro gb439 hg w6 hbox hb; have BK439 := Aside0.mk (hbox); have GW439 := Aside0.mk ((by rw [hg]; exact (bz_ HB.out) : w.heap.size ≤ gb439)); have GE439 := Aside0.mk ((by rw [hg]; exact (bz_ HB.out) : w.heap.size ≤ gb439)); replace HB := Aside0.mk (bs_ HB.out hb); clear hb hbox hg; obtain ⟨hcz7_0, hcz7_1, hcz7_2, hcz7_3, hcz7_4, hcz7_5, hcz7_6, hcz7_7, hcz7_8, hcz7_9, hcz7_10, hfz7_0, hfz7_1, hfz7_2, hfz7_3, hfz7_4, hfz7_5, hfz7_6, hfz7_7, hfz7_8, hfz7_9, hfz7_10⟩ := cz11_ BK439.out) | ((with_reducible refine gate_callee (f := 15) rfl ?_); refine gm_ (some 13) Try.func15 #[.agg #[.int .i64 a0_0, .int .i64 a0_1, .slice A0_2 l0_2.length c0_2, .slice A0_3 l0_3.length c0_3, .slice A0_4 l0_4.length c0_4, .slice A0_5 l0_5.length c0_5, .slice A0_6 l0_6.length c0_6, .slice A0_7 l0_7.length c0_7, .slice A0_8 l0_8.length c0_8, .slice A0_9 l0_9.length c0_9, .int .i64 a0_10], .int .i64 1048576] rfl ?_; (with_reducible refine (laws_szNet.calls k a0_0 a0_1 _ _ l0_2 _ _ l0_3 _ _ l0_4 _ _ l0_5 _ _ l0_6 _ _ l0_7 _ _ l0_8 _ _ l0_9 a0_10 1048576 t440 _ ?side1 HC0_2.out ?side3 HC0_3.out ?side5 HC0_4.out ?side7 HC0_5.out ?side9 HC0_6.out ?side11 HC0_7.out ?side13 HC0_8.out ?side15 HC0_9.out A4.out).mono ?_); (case side1 => exact cb_ HR0_2.out HB.out); (case side3 => exact cb_ HR0_3.out HB.out); (case side5 => exact cb_ HR0_4.out HB.out); (case side7 => exact cb_ HR0_5.out HB.out); (case side9 => exact cb_ HR0_6.out HB.out); (case side11 => exact cb_ HR0_7.out HB.out); (case side13 => exact cb_ HR0_8.out HB.out); (case side15 => exact cb_ HR0_9.out HB.out); rintro e w8 ⟨rfl, hb⟩; refine ⟨_, rfl, ?_⟩; replace BK439 := Aside0.mk (bk_ BK439.out hb); replace HB := Aside0.mk (bs_ HB.out hb); (try clear hb)))
  go_ret
  exact ⟨fin_, bb_ HB.out⟩
 ·rw [if_neg c5] at H
  have c5b0 : decide (t440 < 0) = false := decide_eq_false c5
  clear c5
  replace H := Option.bind_eq_some_iff.mp H
  obtain ⟨⟨t441, t442, t443, t446, t449, t452, t455, t458, t461, t464, t467⟩, A90, H⟩ := H
  try dsimp only at H
  have A9 := Aside0.mk A90
  clear A90
  replace H := Option.bind_eq_some_iff.mp H
  obtain ⟨t468, A100, H⟩ := H
  try dsimp only at H
  have A10 := Aside0.mk A100
  clear A100
  replace H := Option.bind_eq_some_iff.mp H
  obtain ⟨⟨t469, t470, t471, t474, t477, t480, t483, t486, t489, t492, t495⟩, A110, H⟩ := H
  try dsimp only at H
  have A11 := Aside0.mk A110
  clear A110
  replace H := Option.bind_eq_some_iff.mp H
  obtain ⟨t497, A120, H⟩ := H
  try dsimp only at H
  have A12 := Aside0.mk A120
  clear A120
  by_cases c13 : t497 = t468
  ·rw [if_pos c13] at H
   have c13b0 : (t497 == t468) = true := beq_iff_eq.mpr c13
   have c13b1 : (t497 != t468) = false := bne_eq_false_iff_eq.mpr c13
   clear c13
   replace H := Option.bind_eq_some_iff.mp H
   obtain ⟨⟨t498, t499, t500, t503, t506, t509, t512, t515, t518, t521, t524⟩, A140, H⟩ := H
   try dsimp only at H
   have A14 := Aside0.mk A140
   clear A140
   replace H := Option.bind_eq_some_iff.mp H
   obtain ⟨t525, A150, H⟩ := H
   try dsimp only at H
   have A15 := Aside0.mk A150
   clear A150
   by_cases c16 : t525 = true
   ·subst c16
    rw [if_pos rfl] at H
    obtain rfl := Option.some.inj H
    go_enter Try.func7, Try.ntmps7
    try go_wp2_with (first | ((with_reducible refine gate_dst (N := 3) rfl ?_); refine box_event ?hg (N := 3) ?hd (cs := #[.int .i64 a0_0, .int .i64 a0_1, .slice A0_2 l0_2.length c0_2, .slice A0_3 l0_3.length c0_3, .slice A0_4 l0_4.length c0_4, .slice A0_5 l0_5.length c0_5, .slice A0_6 l0_6.length c0_6, .slice A0_7 l0_7.length c0_7, .slice A0_8 l0_8.length c0_8, .slice A0_9 l0_9.length c0_9, .int .i64 a0_10]) (t := 33) ?hr ?_; (case hd => rfl); (case hg => rfl); (case hr => first | (go_simp; done) | (go_simp; rfl)); intro gb439 hg w17 hbox hb; have BK439 := Aside0.mk (hbox); have GW439 := Aside0.mk ((by rw [hg]; exact (bz_ HB.out) : w.heap.size ≤ gb439)); have GE439 := Aside0.mk ((by rw [hg]; exact (bz_ HB.out) : w.heap.size ≤ gb439)); replace HB := Aside0.mk (bs_ HB.out hb); clear hb hbox hg; obtain ⟨hcz18_0, hcz18_1, hcz18_2, hcz18_3, hcz18_4, hcz18_5, hcz18_6, hcz18_7, hcz18_8, hcz18_9, hcz18_10, hfz18_0, hfz18_1, hfz18_2, hfz18_3, hfz18_4, hfz18_5, hfz18_6, hfz18_7, hfz18_8, hfz18_9, hfz18_10⟩ := cz11_ BK439.out) | ((with_reducible refine gate_callee (f := 15) rfl ?_); refine gm_ (some 13) Try.func15 #[.agg #[.int .i64 a0_0, .int .i64 a0_1, .slice A0_2 l0_2.length c0_2, .slice A0_3 l0_3.length c0_3, .slice A0_4 l0_4.length c0_4, .slice A0_5 l0_5.length c0_5, .slice A0_6 l0_6.length c0_6, .slice A0_7 l0_7.length c0_7, .slice A0_8 l0_8.length c0_8, .slice A0_9 l0_9.length c0_9, .int .i64 a0_10], .int .i64 1048576] rfl ?_; (with_reducible refine (laws_szNet.calls k a0_0 a0_1 _ _ l0_2 _ _ l0_3 _ _ l0_4 _ _ l0_5 _ _ l0_6 _ _ l0_7 _ _ l0_8 _ _ l0_9 a0_10 1048576 t440 _ ?side1 HC0_2.out ?side3 HC0_3.out ?side5 HC0_4.out ?side7 HC0_5.out ?side9 HC0_6.out ?side11 HC0_7.out ?side13 HC0_8.out ?side15 HC0_9.out A4.out).mono ?_); (case side1 => exact cb_ HR0_2.out HB.out); (case side3 => exact cb_ HR0_3.out HB.out); (case side5 => exact cb_ HR0_4.out HB.out); (case side7 => exact cb_ HR0_5.out HB.out); (case side9 => exact cb_ HR0_6.out HB.out); (case side11 => exact cb_ HR0_7.out HB.out); (case side13 => exact cb_ HR0_8.out HB.out); (case side15 => exact cb_ HR0_9.out HB.out); rintro e w19 ⟨rfl, hb⟩; refine ⟨_, rfl, ?_⟩; replace BK439 := Aside0.mk (bk_ BK439.out hb); replace HB := Aside0.mk (bs_ HB.out hb); (try clear hb); obtain ⟨hcz20_0, hcz20_1, hcz20_2, hcz20_3, hcz20_4, hcz20_5, hcz20_6, hcz20_7, hcz20_8, hcz20_9, hcz20_10, hfz20_0, hfz20_1, hfz20_2, hfz20_3, hfz20_4, hfz20_5, hfz20_6, hfz20_7, hfz20_8, hfz20_9, hfz20_10⟩ := cz11_ BK439.out) | ((with_reducible refine gate_callee (f := 17) rfl ?_); refine gm_ (some 17) Try.func17 #[.agg #[.int .i64 a0_0, .int .i64 a0_1, .slice A0_2 l0_2.length c0_2, .slice A0_3 l0_3.length c0_3, .slice A0_4 l0_4.length c0_4, .slice A0_5 l0_5.length c0_5, .slice A0_6 l0_6.length c0_6, .slice A0_7 l0_7.length c0_7, .slice A0_8 l0_8.length c0_8, .slice A0_9 l0_9.length c0_9, .int .i64 a0_10]] rfl ?_; (with_reducible refine (laws_toNet.calls k a0_0 a0_1 _ _ l0_2 _ _ l0_3 _ _ l0_4 _ _ l0_5 _ _ l0_6 _ _ l0_7 _ _ l0_8 _ _ l0_9 a0_10 t441 t442 t443 t446 t449 t452 t455 t458 t461 t464 t467 _ ?side1 HC0_2.out ?side3 HC0_3.out ?side5 HC0_4.out ?side7 HC0_5.out ?side9 HC0_6.out ?side11 HC0_7.out ?side13 HC0_8.out ?side15 HC0_9.out A9.out).mono ?_); (case side1 => exact cb_ HR0_2.out HB.out); (case side3 => exact cb_ HR0_3.out HB.out); (case side5 => exact cb_ HR0_4.out HB.out); (case side7 => exact cb_ HR0_5.out HB.out); (case side9 => exact cb_ HR0_6.out HB.out); (case side11 => exact cb_ HR0_7.out HB.out); (case side13 => exact cb_ HR0_8.out HB.out); (case side15 => exact cb_ HR0_9.out HB.out); rintro e w21 ⟨v444, v447, v450, v453, v456, v459, v462, v465, rfl, ho0, ho1, ho2, ho3, ho4, ho5, ho6, ho7, hb⟩; refine ⟨_, rfl, ?_⟩; have HO445 := Aside0.mk (Kd.R_lower ho0 (bz_ HB.out)); have HO448 := Aside0.mk (Kd.R_lower ho1 (bz_ HB.out)); have HO451 := Aside0.mk (Kd.R_lower ho2 (bz_ HB.out)); have HO454 := Aside0.mk (Kd.S_lower ho3 (bz_ HB.out)); have HO457 := Aside0.mk (Kd.R_lower ho4 (bz_ HB.out)); have HO460 := Aside0.mk (Kd.R_lower ho5 (bz_ HB.out)); have HO463 := Aside0.mk (Kd.S_lower ho6 (bz_ HB.out)); have HO466 := Aside0.mk (Kd.S_lower ho7 (bz_ HB.out)); replace BK439 := Aside0.mk (bk_ BK439.out hb); replace HB := Aside0.mk (bs_ HB.out hb); (try clear hb); (try clear ho0); (try clear ho1); (try clear ho2); (try clear ho3); (try clear ho4); (try clear ho5); (try clear ho6); (try clear ho7); obtain ⟨Ao22, co22, eo22⟩ := Kd.R_slice HO445.out; subst eo22; obtain ⟨Ao23, co23, eo23⟩ := Kd.R_slice HO448.out; subst eo23; obtain ⟨Ao24, co24, eo24⟩ := Kd.R_slice HO451.out; subst eo24; obtain ⟨Ao25, co25, eo25⟩ := Kd.S_slice HO454.out; subst eo25; obtain ⟨Ao26, co26, eo26⟩ := Kd.R_slice HO457.out; subst eo26; obtain ⟨Ao27, co27, eo27⟩ := Kd.R_slice HO460.out; subst eo27; obtain ⟨Ao28, co28, eo28⟩ := Kd.S_slice HO463.out; subst eo28; obtain ⟨Ao29, co29, eo29⟩ := Kd.S_slice HO466.out; subst eo29) | ((with_reducible refine gate_callee (f := 26) rfl ?_); refine gm_ (some 20) Try.func26 #[.agg #[.int .i64 t441, .int .i64 t442, .slice Ao22 t443.length co22, .slice Ao23 t446.length co23, .slice Ao24 t449.length co24, .slice Ao25 t452.length co25, .slice Ao26 t455.length co26, .slice Ao27 t458.length co27, .slice Ao28 t461.length co28, .slice Ao29 t464.length co29, .int .i64 t467], .int .i64 a1, .int .i64 a2] rfl ?_; (with_reducible refine (spec_WantedPort.calls k t441 t442 _ _ t443 _ _ t446 _ _ t449 _ _ t452 _ _ t455 _ _ t458 _ _ t461 _ _ t464 t467 a1 a2 t468 _ ?side1 ?side2 ?side3 ?side4 ?side5 ?side6 ?side7 ?side8 ?side9 ?side10 ?side11 ?side12 ?side13 ?side14 ?side15 ?side16 A10.out).mono ?_); (case side1 => repeat (first | exact (Kd.R_reads' HO445.out).2.2 | (with_reducible refine Kd.C_alloc ?_ _) | (with_reducible refine Kd.C_drewN ?_ _) | (with_reducible refine Kd.C_drew ?_))); (case side2 => exact (Kd.R_reads' HO445.out).2.1); (case side3 => repeat (first | exact (Kd.R_reads' HO448.out).2.2 | (with_reducible refine Kd.C_alloc ?_ _) | (with_reducible refine Kd.C_drewN ?_ _) | (with_reducible refine Kd.C_drew ?_))); (case side4 => exact (Kd.R_reads' HO448.out).2.1); (case side5 => repeat (first | exact (Kd.R_reads' HO451.out).2.2 | (with_reducible refine Kd.C_alloc ?_ _) | (with_reducible refine Kd.C_drewN ?_ _) | (with_reducible refine Kd.C_drew ?_))); (case side6 => exact (Kd.R_reads' HO451.out).2.1); (case side7 => repeat (first | exact (Kd.S_reads' HO454.out).2.2 | (with_reducible refine Kd.C_alloc ?_ _) | (with_reducible refine Kd.C_drewN ?_ _) | (with_reducible refine Kd.C_drew ?_))); (case side8 => exact (Kd.S_reads' HO454.out).2.1); (case side9 => repeat (first | exact (Kd.R_reads' HO457.out).2.2 | (with_reducible refine Kd.C_alloc ?_ _) | (with_reducible refine Kd.C_drewN ?_ _) | (with_reducible refine Kd.C_drew ?_))); (case side10 => exact (Kd.R_reads' HO457.out).2.1); (case side11 => repeat (first | exact (Kd.R_reads' HO460.out).2.2 | (with_reducible refine Kd.C_alloc ?_ _) | (with_reducible refine Kd.C_drewN ?_ _) | (with_reducible refine Kd.C_drew ?_))); (case side12 => exact (Kd.R_reads' HO460.out).2.1); (case side13 => repeat (first | exact (Kd.S_reads' HO463.out).2.2 | (with_reducible refine Kd.C_alloc ?_ _) | (with_reducible refine Kd.C_drewN ?_ _) | (with_reducible refine Kd.C_drew ?_))); (case side14 => exact (Kd.S_reads' HO463.out).2.1); (case side15 => repeat (first | exact (Kd.S_reads' HO466.out).2.2 | (with_reducible refine Kd.C_alloc ?_ _) | (with_reducible refine Kd.C_drewN ?_ _) | (with_reducible refine Kd.C_drew ?_))); (case side16 => exact (Kd.S_reads' HO466.out).2.1); rintro e w30 ⟨rfl, hb⟩; refine ⟨_, rfl, ?_⟩; replace HO445 := Aside0.mk (Kd.R_below (ra_ HO445.out) hb); replace HO448 := Aside0.mk (Kd.R_below (ra_ HO448.out) hb); replace HO451 := Aside0.mk (Kd.R_below (ra_ HO451.out) hb); replace HO454 := Aside0.mk (Kd.S_below (sa_ HO454.out) hb); replace HO457 := Aside0.mk (Kd.R_below (ra_ HO457.out) hb); replace HO460 := Aside0.mk (Kd.R_below (ra_ HO460.out) hb); replace HO463 := Aside0.mk (Kd.S_below (sa_ HO463.out) hb); replace HO466 := Aside0.mk (Kd.S_below (sa_ HO466.out) hb); replace BK439 := Aside0.mk (bk_ BK439.out hb); replace HB := Aside0.mk (bs_ HB.out hb); (try clear hb); obtain ⟨hcz31_0, hcz31_1, hcz31_2, hcz31_3, hcz31_4, hcz31_5, hcz31_6, hcz31_7, hcz31_8, hcz31_9, hcz31_10, hfz31_0, hfz31_1, hfz31_2, hfz31_3, hfz31_4, hfz31_5, hfz31_6, hfz31_7, hfz31_8, hfz31_9, hfz31_10⟩ := cz11_ BK439.out) | ((with_reducible refine gate_callee (f := 17) rfl ?_); refine gm_ (some 22) Try.func17 #[.agg #[.int .i64 a0_0, .int .i64 a0_1, .slice A0_2 l0_2.length c0_2, .slice A0_3 l0_3.length c0_3, .slice A0_4 l0_4.length c0_4, .slice A0_5 l0_5.length c0_5, .slice A0_6 l0_6.length c0_6, .slice A0_7 l0_7.length c0_7, .slice A0_8 l0_8.length c0_8, .slice A0_9 l0_9.length c0_9, .int .i64 a0_10]] rfl ?_; (with_reducible refine (laws_toNet.calls k a0_0 a0_1 _ _ l0_2 _ _ l0_3 _ _ l0_4 _ _ l0_5 _ _ l0_6 _ _ l0_7 _ _ l0_8 _ _ l0_9 a0_10 t469 t470 t471 t474 t477 t480 t483 t486 t489 t492 t495 _ ?side1 HC0_2.out ?side3 HC0_3.out ?side5 HC0_4.out ?side7 HC0_5.out ?side9 HC0_6.out ?side11 HC0_7.out ?side13 HC0_8.out ?side15 HC0_9.out A11.out).mono ?_); (case side1 => exact cb_ HR0_2.out HB.out); (case side3 => exact cb_ HR0_3.out HB.out); (case side5 => exact cb_ HR0_4.out HB.out); (case side7 => exact cb_ HR0_5.out HB.out); (case side9 => exact cb_ HR0_6.out HB.out); (case side11 => exact cb_ HR0_7.out HB.out); (case side13 => exact cb_ HR0_8.out HB.out); (case side15 => exact cb_ HR0_9.out HB.out); rintro e w32 ⟨v472, v475, v478, v481, v484, v487, v490, v493, rfl, ho0, ho1, ho2, ho3, ho4, ho5, ho6, ho7, hb⟩; refine ⟨_, rfl, ?_⟩; have HO473 := Aside0.mk (Kd.R_lower (Kd.R_new' (Kd.R_new' (Kd.R_new' (Kd.R_new' (Kd.R_new' ho0 (rl_ HO445.out)) (rl_ HO448.out)) (rl_ HO451.out)) (rl_ HO457.out)) (rl_ HO460.out)) (bz_ HB.out)); have HO476 := Aside0.mk (Kd.R_lower (Kd.R_new' (Kd.R_new' (Kd.R_new' (Kd.R_new' (Kd.R_new' ho1 (rl_ HO445.out)) (rl_ HO448.out)) (rl_ HO451.out)) (rl_ HO457.out)) (rl_ HO460.out)) (bz_ HB.out)); have HO479 := Aside0.mk (Kd.R_lower (Kd.R_new' (Kd.R_new' (Kd.R_new' (Kd.R_new' (Kd.R_new' ho2 (rl_ HO445.out)) (rl_ HO448.out)) (rl_ HO451.out)) (rl_ HO457.out)) (rl_ HO460.out)) (bz_ HB.out)); have HO482 := Aside0.mk (Kd.S_lower (Kd.S_new' (Kd.S_new' (Kd.S_new' ho3 (sl_ HO454.out)) (sl_ HO463.out)) (sl_ HO466.out)) (bz_ HB.out)); have HO485 := Aside0.mk (Kd.R_lower (Kd.R_new' (Kd.R_new' (Kd.R_new' (Kd.R_new' (Kd.R_new' ho4 (rl_ HO445.out)) (rl_ HO448.out)) (rl_ HO451.out)) (rl_ HO457.out)) (rl_ HO460.out)) (bz_ HB.out)); have HO488 := Aside0.mk (Kd.R_lower (Kd.R_new' (Kd.R_new' (Kd.R_new' (Kd.R_new' (Kd.R_new' ho5 (rl_ HO445.out)) (rl_ HO448.out)) (rl_ HO451.out)) (rl_ HO457.out)) (rl_ HO460.out)) (bz_ HB.out)); replace HO445 := Aside0.mk (Kd.R_mono (Kd.R_told (Kd.R_told (Kd.R_told (Kd.R_told (Kd.R_told (Kd.R_old (ra_ HO445.out) hb) (Kd.R_base ho0)) (Kd.R_base ho1)) (Kd.R_base ho2)) (Kd.R_base ho4)) (Kd.R_base ho5)) (fun _ h_ => h_.1)); replace HO448 := Aside0.mk (Kd.R_mono (Kd.R_told (Kd.R_told (Kd.R_told (Kd.R_told (Kd.R_told (Kd.R_old (ra_ HO448.out) hb) (Kd.R_base ho0)) (Kd.R_base ho1)) (Kd.R_base ho2)) (Kd.R_base ho4)) (Kd.R_base ho5)) (fun _ h_ => h_.1)); replace HO451 := Aside0.mk (Kd.R_mono (Kd.R_told (Kd.R_told (Kd.R_told (Kd.R_told (Kd.R_told (Kd.R_old (ra_ HO451.out) hb) (Kd.R_base ho0)) (Kd.R_base ho1)) (Kd.R_base ho2)) (Kd.R_base ho4)) (Kd.R_base ho5)) (fun _ h_ => h_.1)); replace HO457 := Aside0.mk (Kd.R_mono (Kd.R_told (Kd.R_told (Kd.R_told (Kd.R_told (Kd.R_told (Kd.R_old (ra_ HO457.out) hb) (Kd.R_base ho0)) (Kd.R_base ho1)) (Kd.R_base ho2)) (Kd.R_base ho4)) (Kd.R_base ho5)) (fun _ h_ => h_.1)); replace HO460 := Aside0.mk (Kd.R_mono (Kd.R_told (Kd.R_told (Kd.R_told (Kd.R_told (Kd.R_told (Kd.R_old (ra_ HO460.out) hb) (Kd.R_base ho0)) (Kd.R_base ho1)) (Kd.R_base ho2)) (Kd.R_base ho4)) (Kd.R_base ho5)) (fun _ h_ => h_.1)); have HO491 := Aside0.mk (Kd.S_lower (Kd.S_new' (Kd.S_new' (Kd.S_new' ho6 (sl_ HO454.out)) (sl_ HO463.out)) (sl_ HO466.out)) (bz_ HB.out)); have HO494 := Aside0.mk (Kd.S_lower (Kd.S_new' (Kd.S_new' (Kd.S_new' ho7 (sl_ HO454.out)) (sl_ HO463.out)) (sl_ HO466.out)) (bz_ HB.out)); replace HO454 := Aside0.mk (Kd.S_mono (Kd.S_told (Kd.S_told (Kd.S_told (Kd.S_old (sa_ HO454.out) hb) (Kd.S_base ho3)) (Kd.S_base ho6)) (Kd.S_base ho7)) (fun _ h_ => h_.1)); replace HO463 := Aside0.mk (Kd.S_mono (Kd.S_told (Kd.S_told (Kd.S_told (Kd.S_old (sa_ HO463.out) hb) (Kd.S_base ho3)) (Kd.S_base ho6)) (Kd.S_base ho7)) (fun _ h_ => h_.1)); replace HO466 := Aside0.mk (Kd.S_mono (Kd.S_told (Kd.S_told (Kd.S_told (Kd.S_old (sa_ HO466.out) hb) (Kd.S_base ho3)) (Kd.S_base ho6)) (Kd.S_base ho7)) (fun _ h_ => h_.1)); replace BK439 := Aside0.mk (bk_ BK439.out hb); replace HB := Aside0.mk (bs_ HB.out hb); (try clear hb); (try clear ho0); (try clear ho1); (try clear ho2); (try clear ho3); (try clear ho4); (try clear ho5); (try clear ho6); (try clear ho7)) | ((with_reducible refine gate_dst (N := 9) rfl ?_); refine box_event ?hg (N := 9) ?hd (cs := #[.int .i64 0, .int .i64 0, .slice none 0 0, .slice none 0 0, .slice none 0 0, .slice none 0 0, .slice none 0 0, .slice none 0 0, .slice none 0 0, .slice none 0 0, .int .i64 0]) (t := 44) ?hr ?_; (case hd => rfl); (case hg => rfl); (case hr => first | (go_simp; done) | (go_simp; rfl)); intro gb496 hg w33 hbox hb; replace HO445 := Aside0.mk (Kd.R_below (ra_ HO445.out) hb); replace HO448 := Aside0.mk (Kd.R_below (ra_ HO448.out) hb); replace HO451 := Aside0.mk (Kd.R_below (ra_ HO451.out) hb); replace HO454 := Aside0.mk (Kd.S_below (sa_ HO454.out) hb); replace HO457 := Aside0.mk (Kd.R_below (ra_ HO457.out) hb); replace HO460 := Aside0.mk (Kd.R_below (ra_ HO460.out) hb); replace HO463 := Aside0.mk (Kd.S_below (sa_ HO463.out) hb); replace HO466 := Aside0.mk (Kd.S_below (sa_ HO466.out) hb); replace HO473 := Aside0.mk (Kd.R_below (ra_ HO473.out) hb); replace HO476 := Aside0.mk (Kd.R_below (ra_ HO476.out) hb); replace HO479 := Aside0.mk (Kd.R_below (ra_ HO479.out) hb); replace HO482 := Aside0.mk (Kd.S_below (sa_ HO482.out) hb); replace HO485 := Aside0.mk (Kd.R_below (ra_ HO485.out) hb); replace HO488 := Aside0.mk (Kd.R_below (ra_ HO488.out) hb); replace HO491 := Aside0.mk (Kd.S_below (sa_ HO491.out) hb); replace HO494 := Aside0.mk (Kd.S_below (sa_ HO494.out) hb); have BK496 := Aside0.mk (hbox); have GW496 := Aside0.mk ((by rw [hg]; exact (bz_ HB.out) : w.heap.size ≤ gb496)); have GE496 := Aside0.mk ((by rw [hg]; exact (bz_ HB.out) : w.heap.size ≤ gb496)); replace HB := Aside0.mk (bs_ HB.out hb); have NB439_496 := Aside0.mk ((by rw [hg]; exact Nat.ne_of_lt (bl_ BK439.out) : gb439 ≠ gb496)); have NB496_439 := Aside0.mk ((by rw [hg]; exact Nat.ne_of_gt (bl_ BK439.out) : gb496 ≠ gb439)); replace BK439 := Aside0.mk (bk_ BK439.out hb); clear hb hbox hg; have hnb34 := NB496_439.out; have hnc34 := NB439_496.out; obtain ⟨hcz35_0, hcz35_1, hcz35_2, hcz35_3, hcz35_4, hcz35_5, hcz35_6, hcz35_7, hcz35_8, hcz35_9, hcz35_10, hfz35_0, hfz35_1, hfz35_2, hfz35_3, hfz35_4, hfz35_5, hfz35_6, hfz35_7, hfz35_8, hfz35_9, hfz35_10⟩ := cz11_ BK496.out; obtain ⟨Ao36, co36, eo36⟩ := Kd.R_slice HO473.out; subst eo36; obtain ⟨Ao37, co37, eo37⟩ := Kd.R_slice HO476.out; subst eo37; obtain ⟨Ao38, co38, eo38⟩ := Kd.R_slice HO479.out; subst eo38; obtain ⟨Ao39, co39, eo39⟩ := Kd.S_slice HO482.out; subst eo39; obtain ⟨Ao40, co40, eo40⟩ := Kd.R_slice HO485.out; subst eo40; obtain ⟨Ao41, co41, eo41⟩ := Kd.R_slice HO488.out; subst eo41; obtain ⟨Ao42, co42, eo42⟩ := Kd.S_slice HO491.out; subst eo42; obtain ⟨Ao43, co43, eo43⟩ := Kd.S_slice HO494.out; subst eo43) | ((with_reducible refine gate_callee (f := 27) rfl ?_); refine gm_ (some 26) Try.func27 #[.agg #[.int .i64 t469, .int .i64 t470, .slice Ao36 t471.length co36, .slice Ao37 t474.length co37, .slice Ao38 t477.length co38, .slice Ao39 t480.length co39, .slice Ao40 t483.length co40, .slice Ao41 t486.length co41, .slice Ao42 t489.length co42, .slice Ao43 t492.length co43, .int .i64 t495], .int .i64 a1, .int .i64 a2] rfl ?_; (with_reducible refine (impl_WantedPort.calls k t469 t470 _ _ t471 _ _ t474 _ _ t477 _ _ t480 _ _ t483 _ _ t486 _ _ t489 _ _ t492 t495 a1 a2 t497 _ ?side1 ?side2 ?side3 ?side4 ?side5 ?side6 ?side7 ?side8 ?side9 ?side10 ?side11 ?side12 ?side13 ?side14 ?side15 ?side16 A12.out).mono ?_); (case side1 => refine (Kd.R_reads' (e := 3) (base := w.heap.size) (ok := fun k_ => ((((((some k_ ≠ (.slice Ao37 t474.length co37 : Value).ownBlock ∧ (some k_ ≠ (.slice Ao38 t477.length co38 : Value).ownBlock ∧ (some k_ ≠ (.slice Ao40 t483.length co40 : Value).ownBlock ∧ some k_ ≠ (.slice Ao41 t486.length co41 : Value).ownBlock))) ∧ some k_ ≠ (.slice Ao22 t443.length co22 : Value).ownBlock) ∧ some k_ ≠ (.slice Ao23 t446.length co23 : Value).ownBlock) ∧ some k_ ≠ (.slice Ao24 t449.length co24 : Value).ownBlock) ∧ some k_ ≠ (.slice Ao26 t455.length co26 : Value).ownBlock) ∧ some k_ ≠ (.slice Ao27 t458.length co27 : Value).ownBlock)) (n := t471.length) (c := co36) ?_).2.2; exact (rm_ (Kd.R_types HO473.out BK496.out (by decide)) (fun _ h_ => h_.1))); (case side2 => exact (Kd.R_reads' HO473.out).2.1); (case side3 => refine (Kd.R_reads' (e := 3) (base := w.heap.size) (ok := fun k_ => ((((((some k_ ≠ (.slice Ao36 t471.length co36 : Value).ownBlock ∧ (some k_ ≠ (.slice Ao38 t477.length co38 : Value).ownBlock ∧ (some k_ ≠ (.slice Ao40 t483.length co40 : Value).ownBlock ∧ some k_ ≠ (.slice Ao41 t486.length co41 : Value).ownBlock))) ∧ some k_ ≠ (.slice Ao22 t443.length co22 : Value).ownBlock) ∧ some k_ ≠ (.slice Ao23 t446.length co23 : Value).ownBlock) ∧ some k_ ≠ (.slice Ao24 t449.length co24 : Value).ownBlock) ∧ some k_ ≠ (.slice Ao26 t455.length co26 : Value).ownBlock) ∧ some k_ ≠ (.slice Ao27 t458.length co27 : Value).ownBlock)) (n := t474.length) (c := co37) ?_).2.2; exact (rm_ (Kd.R_types HO476.out BK496.out (by decide)) (fun _ h_ => h_.1))); (case side4 => exact (Kd.R_reads' HO476.out).2.1); (case side5 => refine (Kd.R_reads' (e := 3) (base := w.heap.size) (ok := fun k_ => ((((((some k_ ≠ (.slice Ao36 t471.length co36 : Value).ownBlock ∧ (some k_ ≠ (.slice Ao37 t474.length co37 : Value).ownBlock ∧ (some k_ ≠ (.slice Ao40 t483.length co40 : Value).ownBlock ∧ some k_ ≠ (.slice Ao41 t486.length co41 : Value).ownBlock))) ∧ some k_ ≠ (.slice Ao22 t443.length co22 : Value).ownBlock) ∧ some k_ ≠ (.slice Ao23 t446.length co23 : Value).ownBlock) ∧ some k_ ≠ (.slice Ao24 t449.length co24 : Value).ownBlock) ∧ some k_ ≠ (.slice Ao26 t455.length co26 : Value).ownBlock) ∧ some k_ ≠ (.slice Ao27 t458.length co27 : Value).ownBlock)) (n := t477.length) (c := co38) ?_).2.2; exact (rm_ (Kd.R_types HO479.out BK496.out (by decide)) (fun _ h_ => h_.1))); (case side6 => exact (Kd.R_reads' HO479.out).2.1); (case side7 => refine (Kd.S_reads' (e := 62) (base := w.heap.size) (ok := fun k_ => ((((some k_ ≠ (.slice Ao42 t489.length co42 : Value).ownBlock ∧ some k_ ≠ (.slice Ao43 t492.length co43 : Value).ownBlock) ∧ some k_ ≠ (.slice Ao25 t452.length co25 : Value).ownBlock) ∧ some k_ ≠ (.slice Ao28 t461.length co28 : Value).ownBlock) ∧ some k_ ≠ (.slice Ao29 t464.length co29 : Value).ownBlock)) (n := t480.length) (c := co39) ?_).2.2; exact (sm_ (Kd.S_types HO482.out BK496.out (by decide)) (fun _ h_ => h_.1))); (case side8 => exact (Kd.S_reads' HO482.out).2.1); (case side9 => refine (Kd.R_reads' (e := 3) (base := w.heap.size) (ok := fun k_ => ((((((some k_ ≠ (.slice Ao36 t471.length co36 : Value).ownBlock ∧ (some k_ ≠ (.slice Ao37 t474.length co37 : Value).ownBlock ∧ (some k_ ≠ (.slice Ao38 t477.length co38 : Value).ownBlock ∧ some k_ ≠ (.slice Ao41 t486.length co41 : Value).ownBlock))) ∧ some k_ ≠ (.slice Ao22 t443.length co22 : Value).ownBlock) ∧ some k_ ≠ (.slice Ao23 t446.length co23 : Value).ownBlock) ∧ some k_ ≠ (.slice Ao24 t449.length co24 : Value).ownBlock) ∧ some k_ ≠ (.slice Ao26 t455.length co26 : Value).ownBlock) ∧ some k_ ≠ (.slice Ao27 t458.length co27 : Value).ownBlock)) (n := t483.length) (c := co40) ?_).2.2; exact (rm_ (Kd.R_types HO485.out BK496.out (by decide)) (fun _ h_ => h_.1))); (case side10 => exact (Kd.R_reads' HO485.out).2.1); (case side11 => refine (Kd.R_reads' (e := 3) (base := w.heap.size) (ok := fun k_ => ((((((some k_ ≠ (.slice Ao36 t471.length co36 : Value).ownBlock ∧ (some k_ ≠ (.slice Ao37 t474.length co37 : Value).ownBlock ∧ (some k_ ≠ (.slice Ao38 t477.length co38 : Value).ownBlock ∧ some k_ ≠ (.slice Ao40 t483.length co40 : Value).ownBlock))) ∧ some k_ ≠ (.slice Ao22 t443.length co22 : Value).ownBlock) ∧ some k_ ≠ (.slice Ao23 t446.length co23 : Value).ownBlock) ∧ some k_ ≠ (.slice Ao24 t449.length co24 : Value).ownBlock) ∧ some k_ ≠ (.slice Ao26 t455.length co26 : Value).ownBlock) ∧ some k_ ≠ (.slice Ao27 t458.length co27 : Value).ownBlock)) (n := t486.length) (c := co41) ?_).2.2; exact (rm_ (Kd.R_types HO488.out BK496.out (by decide)) (fun _ h_ => h_.1))); (case side12 => exact (Kd.R_reads' HO488.out).2.1); (case side13 => refine (Kd.S_reads' (e := 62) (base := w.heap.size) (ok := fun k_ => ((((some k_ ≠ (.slice Ao39 t480.length co39 : Value).ownBlock ∧ some k_ ≠ (.slice Ao43 t492.length co43 : Value).ownBlock) ∧ some k_ ≠ (.slice Ao25 t452.length co25 : Value).ownBlock) ∧ some k_ ≠ (.slice Ao28 t461.length co28 : Value).ownBlock) ∧ some k_ ≠ (.slice Ao29 t464.length co29 : Value).ownBlock)) (n := t489.length) (c := co42) ?_).2.2; exact (sm_ (Kd.S_types HO491.out BK496.out (by decide)) (fun _ h_ => h_.1))); (case side14 => exact (Kd.S_reads' HO491.out).2.1); (case side15 => refine (Kd.S_reads' (e := 62) (base := w.heap.size) (ok := fun k_ => ((((some k_ ≠ (.slice Ao39 t480.length co39 : Value).ownBlock ∧ some k_ ≠ (.slice Ao42 t489.length co42 : Value).ownBlock) ∧ some k_ ≠ (.slice Ao25 t452.length co25 : Value).ownBlock) ∧ some k_ ≠ (.slice Ao28 t461.length co28 : Value).ownBlock) ∧ some k_ ≠ (.slice Ao29 t464.length co29 : Value).ownBlock)) (n := t492.length) (c := co43) ?_).2.2; exact (sm_ (Kd.S_types HO494.out BK496.out (by decide)) (fun _ h_ => h_.1))); (case side16 => exact (Kd.S_reads' HO494.out).2.1); rintro e w44 ⟨rfl, hb⟩; refine ⟨_, rfl, ?_⟩; replace HO445 := Aside0.mk (Kd.R_below (rm_ (Kd.R_types HO445.out BK496.out (by decide)) (fun _ h_ => h_.1)) hb); replace HO448 := Aside0.mk (Kd.R_below (rm_ (Kd.R_types HO448.out BK496.out (by decide)) (fun _ h_ => h_.1)) hb); replace HO451 := Aside0.mk (Kd.R_below (rm_ (Kd.R_types HO451.out BK496.out (by decide)) (fun _ h_ => h_.1)) hb); replace HO454 := Aside0.mk (Kd.S_below (sm_ (Kd.S_types HO454.out BK496.out (by decide)) (fun _ h_ => h_.1)) hb); replace HO457 := Aside0.mk (Kd.R_below (rm_ (Kd.R_types HO457.out BK496.out (by decide)) (fun _ h_ => h_.1)) hb); replace HO460 := Aside0.mk (Kd.R_below (rm_ (Kd.R_types HO460.out BK496.out (by decide)) (fun _ h_ => h_.1)) hb); replace HO463 := Aside0.mk (Kd.S_below (sm_ (Kd.S_types HO463.out BK496.out (by decide)) (fun _ h_ => h_.1)) hb); replace HO466 := Aside0.mk (Kd.S_below (sm_ (Kd.S_types HO466.out BK496.out (by decide)) (fun _ h_ => h_.1)) hb); replace HO473 := Aside0.mk (Kd.R_below (rm_ (Kd.R_types HO473.out BK496.out (by decide)) (fun _ h_ => h_.1)) hb); replace HO476 := Aside0.mk (Kd.R_below (rm_ (Kd.R_types HO476.out BK496.out (by decide)) (fun _ h_ => h_.1)) hb); replace HO479 := Aside0.mk (Kd.R_below (rm_ (Kd.R_types HO479.out BK496.out (by decide)) (fun _ h_ => h_.1)) hb); replace HO482 := Aside0.mk (Kd.S_below (sm_ (Kd.S_types HO482.out BK496.out (by decide)) (fun _ h_ => h_.1)) hb); replace HO485 := Aside0.mk (Kd.R_below (rm_ (Kd.R_types HO485.out BK496.out (by decide)) (fun _ h_ => h_.1)) hb); replace HO488 := Aside0.mk (Kd.R_below (rm_ (Kd.R_types HO488.out BK496.out (by decide)) (fun _ h_ => h_.1)) hb); replace HO491 := Aside0.mk (Kd.S_below (sm_ (Kd.S_types HO491.out BK496.out (by decide)) (fun _ h_ => h_.1)) hb); replace HO494 := Aside0.mk (Kd.S_below (sm_ (Kd.S_types HO494.out BK496.out (by decide)) (fun _ h_ => h_.1)) hb); replace BK439 := Aside0.mk (blk_below (bf_ BK439.out) hb); replace BK496 := Aside0.mk (blk_below (g := gb496) (o := .cells #[.int .i64 t469, .int .i64 t470, .slice Ao36 t471.length co36, .slice Ao37 t474.length co37, .slice Ao38 t477.length co38, .slice Ao39 t480.length co39, .slice Ao40 t483.length co40, .slice Ao41 t486.length co41, .slice Ao42 t489.length co42, .slice Ao43 t492.length co43, .int .i64 t495] 44 (0, 0)) (by (with_reducible repeat (first | refine blk_drewN ?_ _ | refine blk_drew ?_ | refine blk_alloc ?_ _)); refine blk_put (cs := #[.int .i64 t469, .int .i64 t470, .slice Ao36 t471.length co36, .slice Ao37 t474.length co37, .slice Ao38 t477.length co38, .slice Ao39 t480.length co39, .slice Ao40 t483.length co40, .slice Ao41 t486.length co41, .slice Ao42 t489.length co42, .slice Ao43 t492.length co43, .int .i64 0]) ?_ 10 _ rfl; (with_reducible repeat (first | refine blk_drewN ?_ _ | refine blk_drew ?_ | refine blk_alloc ?_ _)); refine blk_put (cs := #[.int .i64 t469, .int .i64 t470, .slice Ao36 t471.length co36, .slice Ao37 t474.length co37, .slice Ao38 t477.length co38, .slice Ao39 t480.length co39, .slice Ao40 t483.length co40, .slice Ao41 t486.length co41, .slice Ao42 t489.length co42, .slice none 0 0, .int .i64 0]) ?_ 9 _ rfl; (with_reducible repeat (first | refine blk_drewN ?_ _ | refine blk_drew ?_ | refine blk_alloc ?_ _)); refine blk_put (cs := #[.int .i64 t469, .int .i64 t470, .slice Ao36 t471.length co36, .slice Ao37 t474.length co37, .slice Ao38 t477.length co38, .slice Ao39 t480.length co39, .slice Ao40 t483.length co40, .slice Ao41 t486.length co41, .slice none 0 0, .slice none 0 0, .int .i64 0]) ?_ 8 _ rfl; (with_reducible repeat (first | refine blk_drewN ?_ _ | refine blk_drew ?_ | refine blk_alloc ?_ _)); refine blk_put (cs := #[.int .i64 t469, .int .i64 t470, .slice Ao36 t471.length co36, .slice Ao37 t474.length co37, .slice Ao38 t477.length co38, .slice Ao39 t480.length co39, .slice Ao40 t483.length co40, .slice none 0 0, .slice none 0 0, .slice none 0 0, .int .i64 0]) ?_ 7 _ rfl; (with_reducible repeat (first | refine blk_drewN ?_ _ | refine blk_drew ?_ | refine blk_alloc ?_ _)); refine blk_put (cs := #[.int .i64 t469, .int .i64 t470, .slice Ao36 t471.length co36, .slice Ao37 t474.length co37, .slice Ao38 t477.length co38, .slice Ao39 t480.length co39, .slice none 0 0, .slice none 0 0, .slice none 0 0, .slice none 0 0, .int .i64 0]) ?_ 6 _ rfl; (with_reducible repeat (first | refine blk_drewN ?_ _ | refine blk_drew ?_ | refine blk_alloc ?_ _)); refine blk_put (cs := #[.int .i64 t469, .int .i64 t470, .slice Ao36 t471.length co36, .slice Ao37 t474.length co37, .slice Ao38 t477.length co38, .slice none 0 0, .slice none 0 0, .slice none 0 0, .slice none 0 0, .slice none 0 0, .int .i64 0]) ?_ 5 _ rfl; (with_reducible repeat (first | refine blk_drewN ?_ _ | refine blk_drew ?_ | refine blk_alloc ?_ _)); refine blk_put (cs := #[.int .i64 t469, .int .i64 t470, .slice Ao36 t471.length co36, .slice Ao37 t474.length co37, .slice none 0 0, .slice none 0 0, .slice none 0 0, .slice none 0 0, .slice none 0 0, .slice none 0 0, .int .i64 0]) ?_ 4 _ rfl; (with_reducible repeat (first | refine blk_drewN ?_ _ | refine blk_drew ?_ | refine blk_alloc ?_ _)); refine blk_put (cs := #[.int .i64 t469, .int .i64 t470, .slice Ao36 t471.length co36, .slice none 0 0, .slice none 0 0, .slice none 0 0, .slice none 0 0, .slice none 0 0, .slice none 0 0, .slice none 0 0, .int .i64 0]) ?_ 3 _ rfl; (with_reducible repeat (first | refine blk_drewN ?_ _ | refine blk_drew ?_ | refine blk_alloc ?_ _)); refine blk_put (cs := #[.int .i64 t469, .int .i64 t470, .slice none 0 0, .slice none 0 0, .slice none 0 0, .slice none 0 0, .slice none 0 0, .slice none 0 0, .slice none 0 0, .slice none 0 0, .int .i64 0]) ?_ 2 _ rfl; (with_reducible repeat (first | refine blk_drewN ?_ _ | refine blk_drew ?_ | refine blk_alloc ?_ _)); refine blk_put (cs := #[.int .i64 t469, .int .i64 0, .slice none 0 0, .slice none 0 0, .slice none 0 0, .slice none 0 0, .slice none 0 0, .slice none 0 0, .slice none 0 0, .slice none 0 0, .int .i64 0]) ?_ 1 _ rfl; (with_reducible repeat (first | refine blk_drewN ?_ _ | refine blk_drew ?_ | refine blk_alloc ?_ _)); refine blk_put (cs := #[.int .i64 0, .int .i64 0, .slice none 0 0, .slice none 0 0, .slice none 0 0, .slice none 0 0, .slice none 0 0, .slice none 0 0, .slice none 0 0, .slice none 0 0, .int .i64 0]) ?_ 0 _ rfl; (with_reducible repeat (first | refine blk_drewN ?_ _ | refine blk_drew ?_ | refine blk_alloc ?_ _)); exact BK496.out) hb); replace HB := Aside0.mk (bs_ HB.out hb); (try clear hb)))
    have n0_ := Aside0.mk (Kd.R_drew HO445.out)
    have n1_ := Aside0.mk (Kd.R_drew HO448.out)
    have n2_ := Aside0.mk (Kd.R_drew HO451.out)
    have n3_ := Aside0.mk (Kd.S_drew HO454.out)
    have n4_ := Aside0.mk (Kd.R_drew HO457.out)
    have n5_ := Aside0.mk (Kd.R_drew HO460.out)
    have n6_ := Aside0.mk (Kd.S_drew HO463.out)
    have n7_ := Aside0.mk (Kd.S_drew HO466.out)
    have n8_ := Aside0.mk (Kd.R_drew HO473.out)
    have n9_ := Aside0.mk (Kd.R_drew HO476.out)
    have n10_ := Aside0.mk (Kd.R_drew HO479.out)
    have n11_ := Aside0.mk (Kd.S_drew HO482.out)
    have n12_ := Aside0.mk (Kd.R_drew HO485.out)
    have n13_ := Aside0.mk (Kd.R_drew HO488.out)
    have n14_ := Aside0.mk (Kd.S_drew HO491.out)
    have n15_ := Aside0.mk (Kd.S_drew HO494.out)
    have n16_ := Aside0.mk (blk_drew BK439.out)
    have n17_ := Aside0.mk (blk_drew BK496.out)
    have n18_ := Aside0.mk (below_drew1 HB.out)
    clear HO445
    clear HO448
    clear HO451
    clear HO454
    clear HO457
    clear HO460
    clear HO463
    clear HO466
    clear HO473
    clear HO476
    clear HO479
    clear HO482
    clear HO485
    clear HO488
    clear HO491
    clear HO494
    clear BK439
    clear BK496
    clear HB
    have HO445 := n0_
    have HO448 := n1_
    have HO451 := n2_
    have HO454 := n3_
    have HO457 := n4_
    have HO460 := n5_
    have HO463 := n6_
    have HO466 := n7_
    have HO473 := n8_
    have HO476 := n9_
    have HO479 := n10_
    have HO482 := n11_
    have HO485 := n12_
    have HO488 := n13_
    have HO491 := n14_
    have HO494 := n15_
    have BK439 := n16_
    have BK496 := n17_
    have HB := n18_
    clear n0_ n1_ n2_ n3_ n4_ n5_ n6_ n7_ n8_ n9_ n10_ n11_ n12_ n13_ n14_ n15_ n16_ n17_ n18_
    refine start_ (n := 5) (S := fun w' => w'.cell? ⟨gb496, 0, none⟩ = some (.int .i64 t469) ∧ w'.cell? ⟨gb496, 1, none⟩ = some (.int .i64 t470) ∧ w'.cell? ⟨gb496, 2, none⟩ = some (.slice Ao36 t471.length co36) ∧ w'.cell? ⟨gb496, 3, none⟩ = some (.slice Ao37 t474.length co37) ∧ w'.cell? ⟨gb496, 4, none⟩ = some (.slice Ao38 t477.length co38) ∧ w'.cell? ⟨gb496, 5, none⟩ = some (.slice Ao39 t480.length co39) ∧ w'.cell? ⟨gb496, 6, none⟩ = some (.slice Ao40 t483.length co40) ∧ w'.cell? ⟨gb496, 7, none⟩ = some (.slice Ao41 t486.length co41) ∧ w'.cell? ⟨gb496, 8, none⟩ = some (.slice Ao42 t489.length co42) ∧ w'.cell? ⟨gb496, 9, none⟩ = some (.slice Ao43 t492.length co43) ∧ w'.cell? ⟨gb496, 10, none⟩ = some (.int .i64 t495) ∧ w'.cell? ⟨gb439, 0, none⟩ = some (.int .i64 a0_0) ∧ w'.cell? ⟨gb439, 1, none⟩ = some (.int .i64 a0_1) ∧ w'.cell? ⟨gb439, 2, none⟩ = some (.slice A0_2 l0_2.length c0_2) ∧ w'.cell? ⟨gb439, 3, none⟩ = some (.slice A0_3 l0_3.length c0_3) ∧ w'.cell? ⟨gb439, 4, none⟩ = some (.slice A0_4 l0_4.length c0_4) ∧ w'.cell? ⟨gb439, 5, none⟩ = some (.slice A0_5 l0_5.length c0_5) ∧ w'.cell? ⟨gb439, 6, none⟩ = some (.slice A0_6 l0_6.length c0_6) ∧ w'.cell? ⟨gb439, 7, none⟩ = some (.slice A0_7 l0_7.length c0_7) ∧ w'.cell? ⟨gb439, 8, none⟩ = some (.slice A0_8 l0_8.length c0_8) ∧ w'.cell? ⟨gb439, 9, none⟩ = some (.slice A0_9 l0_9.length c0_9) ∧ w'.cell? ⟨gb439, 10, none⟩ = some (.int .i64 a0_10)) (ds := []) #[false, false, false, false, false] (by kernel_rfl) rfl rfl ⟨(blk_cell BK496.out 0).trans rfl, (blk_cell BK496.out 1).trans rfl, (blk_cell BK496.out 2).trans rfl, (blk_cell BK496.out 3).trans rfl, (blk_cell BK496.out 4).trans rfl, (blk_cell BK496.out 5).trans rfl, (blk_cell BK496.out 6).trans rfl, (blk_cell BK496.out 7).trans rfl, (blk_cell BK496.out 8).trans rfl, (blk_cell BK496.out 9).trans rfl, (blk_cell BK496.out 10).trans rfl, (blk_cell BK439.out 0).trans rfl, (blk_cell BK439.out 1).trans rfl, (blk_cell BK439.out 2).trans rfl, (blk_cell BK439.out 3).trans rfl, (blk_cell BK439.out 4).trans rfl, (blk_cell BK439.out 5).trans rfl, (blk_cell BK439.out 6).trans rfl, (blk_cell BK439.out 7).trans rfl, (blk_cell BK439.out 8).trans rfl, (blk_cell BK439.out 9).trans rfl, (blk_cell BK439.out 10).trans rfl⟩ (fun hHeld => ?_)
    generalize w44.drew = w45 at HO445 HO448 HO451 HO454 HO457 HO460 HO463 HO466 HO473 HO476 HO479 HO482 HO485 HO488 HO491 HO494 BK439 BK496 HB hHeld ⊢
    refine take_ (i := 0) (N := some 30) (v := ?_) (a' := ?_) (bt_ 5 1) rfl rfl (by kernel_rfl) (fun _ _ _ h => h) (Or.inl ⟨by rfl, ?_⟩) hHeld ?_ ?_
    rotate_left
    ·rintro w' ⟨s0, s1, s2, s3, s4, s5, s6, s7, s8, s9, s10, s11, s12, s13, s14, s15, s16, s17, s18, s19, s20, s21⟩
     go_simp
     with_reducible rfl
    rotate_left
    ·simp only [Act.put, List.setIfInBounds_toArray, List.set_cons_zero, List.set_cons_succ, i64_w, i32_w]
     rfl
    refine take_ (i := 1) (N := some 31) (v := ?_) (a' := ?_) (bt_ 5 3) rfl rfl (by kernel_rfl) (fun _ _ _ h => h) (Or.inl ⟨by rfl, ?_⟩) hHeld ?_ ?_
    rotate_left
    ·rintro w' ⟨s0, s1, s2, s3, s4, s5, s6, s7, s8, s9, s10, s11, s12, s13, s14, s15, s16, s17, s18, s19, s20, s21⟩
     go_simp
     with_reducible rfl
    rotate_left
    ·simp only [Act.put, List.setIfInBounds_toArray, List.set_cons_zero, List.set_cons_succ, i64_w, i32_w]
     rfl
    refine one_ (i := 2) (N := some 32) (bt_ 5 7) rfl rfl (by kernel_rfl) (by decide) (fun K hK => ?_)
    refine goes_ Try.func17 (by kernel_rfl) rfl #[.agg #[.int .i64 a0_0, .int .i64 a0_1, .slice A0_2 l0_2.length c0_2, .slice A0_3 l0_3.length c0_3, .slice A0_4 l0_4.length c0_4, .slice A0_5 l0_5.length c0_5, .slice A0_6 l0_6.length c0_6, .slice A0_7 l0_7.length c0_7, .slice A0_8 l0_8.length c0_8, .slice A0_9 l0_9.length c0_9, .int .i64 a0_10]] (by rfl) rfl rfl (by (try simp only [List.map_toArray, List.map_cons, List.map_nil]); first | done | rfl | (simp only [List.length_drop, List.length_take]; rfl)) ?_
    with_reducible refine (laws_toNet.calls k a0_0 a0_1 _ _ l0_2 _ _ l0_3 _ _ l0_4 _ _ l0_5 _ _ l0_6 _ _ l0_7 _ _ l0_8 _ _ l0_9 a0_10 t498 t499 t500 t503 t506 t509 t512 t515 t518 t521 t524 _ ?side1 ?side2 ?side3 ?side4 ?side5 ?side6 ?side7 ?side8 ?side9 ?side10 ?side11 ?side12 ?side13 ?side14 ?side15 ?side16 A14.out).mono ?_
    (case side1 => exact cb_ HR0_2.out HB.out)
    (case side2 => exact HC0_2.out)
    (case side3 => exact cb_ HR0_3.out HB.out)
    (case side4 => exact HC0_3.out)
    (case side5 => exact cb_ HR0_4.out HB.out)
    (case side6 => exact HC0_4.out)
    (case side7 => exact cb_ HR0_5.out HB.out)
    (case side8 => exact HC0_5.out)
    (case side9 => exact cb_ HR0_6.out HB.out)
    (case side10 => exact HC0_6.out)
    (case side11 => exact cb_ HR0_7.out HB.out)
    (case side12 => exact HC0_7.out)
    (case side13 => exact cb_ HR0_8.out HB.out)
    (case side14 => exact HC0_8.out)
    (case side15 => exact cb_ HR0_9.out HB.out)
    (case side16 => exact HC0_9.out)
    rintro e w46 ⟨v501, v504, v507, v510, v513, v516, v519, v522, rfl, ho0, ho1, ho2, ho3, ho4, ho5, ho6, ho7, hb⟩
    refine ⟨_, rfl, ?_⟩
    have n0_ := Aside0.mk (Kd.R_mono (Kd.R_told (Kd.R_told (Kd.R_told (Kd.R_told (Kd.R_told (Kd.R_old (ra_ HO445.out) hb) (Kd.R_base ho0)) (Kd.R_base ho1)) (Kd.R_base ho2)) (Kd.R_base ho4)) (Kd.R_base ho5)) (fun _ h_ => h_.1))
    have n1_ := Aside0.mk (Kd.R_mono (Kd.R_told (Kd.R_told (Kd.R_told (Kd.R_told (Kd.R_told (Kd.R_old (ra_ HO448.out) hb) (Kd.R_base ho0)) (Kd.R_base ho1)) (Kd.R_base ho2)) (Kd.R_base ho4)) (Kd.R_base ho5)) (fun _ h_ => h_.1))
    have n2_ := Aside0.mk (Kd.R_mono (Kd.R_told (Kd.R_told (Kd.R_told (Kd.R_told (Kd.R_told (Kd.R_old (ra_ HO451.out) hb) (Kd.R_base ho0)) (Kd.R_base ho1)) (Kd.R_base ho2)) (Kd.R_base ho4)) (Kd.R_base ho5)) (fun _ h_ => h_.1))
    have n3_ := Aside0.mk (Kd.S_mono (Kd.S_told (Kd.S_told (Kd.S_told (Kd.S_old (sa_ HO454.out) hb) (Kd.S_base ho3)) (Kd.S_base ho6)) (Kd.S_base ho7)) (fun _ h_ => h_.1))
    have n4_ := Aside0.mk (Kd.R_mono (Kd.R_told (Kd.R_told (Kd.R_told (Kd.R_told (Kd.R_told (Kd.R_old (ra_ HO457.out) hb) (Kd.R_base ho0)) (Kd.R_base ho1)) (Kd.R_base ho2)) (Kd.R_base ho4)) (Kd.R_base ho5)) (fun _ h_ => h_.1))
    have n5_ := Aside0.mk (Kd.R_mono (Kd.R_told (Kd.R_told (Kd.R_told (Kd.R_told (Kd.R_told (Kd.R_old (ra_ HO460.out) hb) (Kd.R_base ho0)) (Kd.R_base ho1)) (Kd.R_base ho2)) (Kd.R_base ho4)) (Kd.R_base ho5)) (fun _ h_ => h_.1))
    have n6_ := Aside0.mk (Kd.S_mono (Kd.S_told (Kd.S_told (Kd.S_told (Kd.S_old (sa_ HO463.out) hb) (Kd.S_base ho3)) (Kd.S_base ho6)) (Kd.S_base ho7)) (fun _ h_ => h_.1))
    have n7_ := Aside0.mk (Kd.S_mono (Kd.S_told (Kd.S_told (Kd.S_told (Kd.S_old (sa_ HO466.out) hb) (Kd.S_base ho3)) (Kd.S_base ho6)) (Kd.S_base ho7)) (fun _ h_ => h_.1))
    have n8_ := Aside0.mk (Kd.R_mono (Kd.R_told (Kd.R_told (Kd.R_told (Kd.R_told (Kd.R_told (Kd.R_old (ra_ HO473.out) hb) (Kd.R_base ho0)) (Kd.R_base ho1)) (Kd.R_base ho2)) (Kd.R_base ho4)) (Kd.R_base ho5)) (fun _ h_ => h_.1))
    have n9_ := Aside0.mk (Kd.R_mono (Kd.R_told (Kd.R_told (Kd.R_told (Kd.R_told (Kd.R_told (Kd.R_old (ra_ HO476.out) hb) (Kd.R_base ho0)) (Kd.R_base ho1)) (Kd.R_base ho2)) (Kd.R_base ho4)) (Kd.R_base ho5)) (fun _ h_ => h_.1))
    have n10_ := Aside0.mk (Kd.R_mono (Kd.R_told (Kd.R_told (Kd.R_told (Kd.R_told (Kd.R_told (Kd.R_old (ra_ HO479.out) hb) (Kd.R_base ho0)) (Kd.R_base ho1)) (Kd.R_base ho2)) (Kd.R_base ho4)) (Kd.R_base ho5)) (fun _ h_ => h_.1))
    have n11_ := Aside0.mk (Kd.S_mono (Kd.S_told (Kd.S_told (Kd.S_told (Kd.S_old (sa_ HO482.out) hb) (Kd.S_base ho3)) (Kd.S_base ho6)) (Kd.S_base ho7)) (fun _ h_ => h_.1))
    have n12_ := Aside0.mk (Kd.R_mono (Kd.R_told (Kd.R_told (Kd.R_told (Kd.R_told (Kd.R_told (Kd.R_old (ra_ HO485.out) hb) (Kd.R_base ho0)) (Kd.R_base ho1)) (Kd.R_base ho2)) (Kd.R_base ho4)) (Kd.R_base ho5)) (fun _ h_ => h_.1))
    have n13_ := Aside0.mk (Kd.R_mono (Kd.R_told (Kd.R_told (Kd.R_told (Kd.R_told (Kd.R_told (Kd.R_old (ra_ HO488.out) hb) (Kd.R_base ho0)) (Kd.R_base ho1)) (Kd.R_base ho2)) (Kd.R_base ho4)) (Kd.R_base ho5)) (fun _ h_ => h_.1))
    have n14_ := Aside0.mk (Kd.S_mono (Kd.S_told (Kd.S_told (Kd.S_told (Kd.S_old (sa_ HO491.out) hb) (Kd.S_base ho3)) (Kd.S_base ho6)) (Kd.S_base ho7)) (fun _ h_ => h_.1))
    have n15_ := Aside0.mk (Kd.S_mono (Kd.S_told (Kd.S_told (Kd.S_told (Kd.S_old (sa_ HO494.out) hb) (Kd.S_base ho3)) (Kd.S_base ho6)) (Kd.S_base ho7)) (fun _ h_ => h_.1))
    have n16_ := Aside0.mk (Kd.R_lower (Kd.R_new' (Kd.R_new' (Kd.R_new' (Kd.R_new' (Kd.R_new' (Kd.R_new' (Kd.R_new' (Kd.R_new' (Kd.R_new' (Kd.R_new' ho0 (rl_ HO445.out)) (rl_ HO448.out)) (rl_ HO451.out)) (rl_ HO457.out)) (rl_ HO460.out)) (rl_ HO473.out)) (rl_ HO476.out)) (rl_ HO479.out)) (rl_ HO485.out)) (rl_ HO488.out)) (bz_ HB.out))
    have n17_ := Aside0.mk (Kd.R_lower (Kd.R_new' (Kd.R_new' (Kd.R_new' (Kd.R_new' (Kd.R_new' (Kd.R_new' (Kd.R_new' (Kd.R_new' (Kd.R_new' (Kd.R_new' ho1 (rl_ HO445.out)) (rl_ HO448.out)) (rl_ HO451.out)) (rl_ HO457.out)) (rl_ HO460.out)) (rl_ HO473.out)) (rl_ HO476.out)) (rl_ HO479.out)) (rl_ HO485.out)) (rl_ HO488.out)) (bz_ HB.out))
    have n18_ := Aside0.mk (Kd.R_lower (Kd.R_new' (Kd.R_new' (Kd.R_new' (Kd.R_new' (Kd.R_new' (Kd.R_new' (Kd.R_new' (Kd.R_new' (Kd.R_new' (Kd.R_new' ho2 (rl_ HO445.out)) (rl_ HO448.out)) (rl_ HO451.out)) (rl_ HO457.out)) (rl_ HO460.out)) (rl_ HO473.out)) (rl_ HO476.out)) (rl_ HO479.out)) (rl_ HO485.out)) (rl_ HO488.out)) (bz_ HB.out))
    have n19_ := Aside0.mk (Kd.S_lower (Kd.S_new' (Kd.S_new' (Kd.S_new' (Kd.S_new' (Kd.S_new' (Kd.S_new' ho3 (sl_ HO454.out)) (sl_ HO463.out)) (sl_ HO466.out)) (sl_ HO482.out)) (sl_ HO491.out)) (sl_ HO494.out)) (bz_ HB.out))
    have n20_ := Aside0.mk (Kd.R_lower (Kd.R_new' (Kd.R_new' (Kd.R_new' (Kd.R_new' (Kd.R_new' (Kd.R_new' (Kd.R_new' (Kd.R_new' (Kd.R_new' (Kd.R_new' ho4 (rl_ HO445.out)) (rl_ HO448.out)) (rl_ HO451.out)) (rl_ HO457.out)) (rl_ HO460.out)) (rl_ HO473.out)) (rl_ HO476.out)) (rl_ HO479.out)) (rl_ HO485.out)) (rl_ HO488.out)) (bz_ HB.out))
    have n21_ := Aside0.mk (Kd.R_lower (Kd.R_new' (Kd.R_new' (Kd.R_new' (Kd.R_new' (Kd.R_new' (Kd.R_new' (Kd.R_new' (Kd.R_new' (Kd.R_new' (Kd.R_new' ho5 (rl_ HO445.out)) (rl_ HO448.out)) (rl_ HO451.out)) (rl_ HO457.out)) (rl_ HO460.out)) (rl_ HO473.out)) (rl_ HO476.out)) (rl_ HO479.out)) (rl_ HO485.out)) (rl_ HO488.out)) (bz_ HB.out))
    have n22_ := Aside0.mk (Kd.S_lower (Kd.S_new' (Kd.S_new' (Kd.S_new' (Kd.S_new' (Kd.S_new' (Kd.S_new' ho6 (sl_ HO454.out)) (sl_ HO463.out)) (sl_ HO466.out)) (sl_ HO482.out)) (sl_ HO491.out)) (sl_ HO494.out)) (bz_ HB.out))
    have n23_ := Aside0.mk (Kd.S_lower (Kd.S_new' (Kd.S_new' (Kd.S_new' (Kd.S_new' (Kd.S_new' (Kd.S_new' ho7 (sl_ HO454.out)) (sl_ HO463.out)) (sl_ HO466.out)) (sl_ HO482.out)) (sl_ HO491.out)) (sl_ HO494.out)) (bz_ HB.out))
    have n24_ := Aside0.mk (bk_ BK439.out hb)
    have n25_ := Aside0.mk (bk_ BK496.out hb)
    have n26_ := Aside0.mk (bs_ HB.out hb)
    clear HO445
    clear HO448
    clear HO451
    clear HO454
    clear HO457
    clear HO460
    clear HO463
    clear HO466
    clear HO473
    clear HO476
    clear HO479
    clear HO482
    clear HO485
    clear HO488
    clear HO491
    clear HO494
    clear BK439
    clear BK496
    clear HB
    have HO445 := n0_
    have HO448 := n1_
    have HO451 := n2_
    have HO454 := n3_
    have HO457 := n4_
    have HO460 := n5_
    have HO463 := n6_
    have HO466 := n7_
    have HO473 := n8_
    have HO476 := n9_
    have HO479 := n10_
    have HO482 := n11_
    have HO485 := n12_
    have HO488 := n13_
    have HO491 := n14_
    have HO494 := n15_
    have HO502 := n16_
    have HO505 := n17_
    have HO508 := n18_
    have HO511 := n19_
    have HO514 := n20_
    have HO517 := n21_
    have HO520 := n22_
    have HO523 := n23_
    have BK439 := n24_
    have BK496 := n25_
    have HB := n26_
    clear n0_ n1_ n2_ n3_ n4_ n5_ n6_ n7_ n8_ n9_ n10_ n11_ n12_ n13_ n14_ n15_ n16_ n17_ n18_ n19_ n20_ n21_ n22_ n23_ n24_ n25_ n26_
    (try clear hb)
    (try clear hb2)
    (try clear hk)
    (try clear hi)
    (try clear ho0)
    (try clear ho1)
    (try clear ho2)
    (try clear ho3)
    (try clear ho4)
    (try clear ho5)
    (try clear ho6)
    (try clear ho7)
    obtain ⟨Ao47, co47, eo47⟩ := Kd.R_slice HO502.out
    (first | subst eo47 | (injection eo47 with f1_ f2_ f3_; have f4_ := f1_.symm; have f5_ := f3_.symm; clear f1_ f2_ f3_; subst f4_; subst f5_))
    obtain ⟨Ao48, co48, eo48⟩ := Kd.R_slice HO505.out
    (first | subst eo48 | (injection eo48 with f1_ f2_ f3_; have f4_ := f1_.symm; have f5_ := f3_.symm; clear f1_ f2_ f3_; subst f4_; subst f5_))
    obtain ⟨Ao49, co49, eo49⟩ := Kd.R_slice HO508.out
    (first | subst eo49 | (injection eo49 with f1_ f2_ f3_; have f4_ := f1_.symm; have f5_ := f3_.symm; clear f1_ f2_ f3_; subst f4_; subst f5_))
    obtain ⟨Ao50, co50, eo50⟩ := Kd.S_slice HO511.out
    (first | subst eo50 | (injection eo50 with f1_ f2_ f3_; have f4_ := f1_.symm; have f5_ := f3_.symm; clear f1_ f2_ f3_; subst f4_; subst f5_))
    obtain ⟨Ao51, co51, eo51⟩ := Kd.R_slice HO514.out
    (first | subst eo51 | (injection eo51 with f1_ f2_ f3_; have f4_ := f1_.symm; have f5_ := f3_.symm; clear f1_ f2_ f3_; subst f4_; subst f5_))
    obtain ⟨Ao52, co52, eo52⟩ := Kd.R_slice HO517.out
    (first | subst eo52 | (injection eo52 with f1_ f2_ f3_; have f4_ := f1_.symm; have f5_ := f3_.symm; clear f1_ f2_ f3_; subst f4_; subst f5_))
    obtain ⟨Ao53, co53, eo53⟩ := Kd.S_slice HO520.out
    (first | subst eo53 | (injection eo53 with f1_ f2_ f3_; have f4_ := f1_.symm; have f5_ := f3_.symm; clear f1_ f2_ f3_; subst f4_; subst f5_))
    obtain ⟨Ao54, co54, eo54⟩ := Kd.S_slice HO523.out
    (first | subst eo54 | (injection eo54 with f1_ f2_ f3_; have f4_ := f1_.symm; have f5_ := f3_.symm; clear f1_ f2_ f3_; subst f4_; subst f5_))
    refine hK.out _ _ ⟨(blk_cell BK496.out 0).trans rfl, (blk_cell BK496.out 1).trans rfl, (blk_cell BK496.out 2).trans rfl, (blk_cell BK496.out 3).trans rfl, (blk_cell BK496.out 4).trans rfl, (blk_cell BK496.out 5).trans rfl, (blk_cell BK496.out 6).trans rfl, (blk_cell BK496.out 7).trans rfl, (blk_cell BK496.out 8).trans rfl, (blk_cell BK496.out 9).trans rfl, (blk_cell BK496.out 10).trans rfl, (blk_cell BK439.out 0).trans rfl, (blk_cell BK439.out 1).trans rfl, (blk_cell BK439.out 2).trans rfl, (blk_cell BK439.out 3).trans rfl, (blk_cell BK439.out 4).trans rfl, (blk_cell BK439.out 5).trans rfl, (blk_cell BK439.out 6).trans rfl, (blk_cell BK439.out 7).trans rfl, (blk_cell BK439.out 8).trans rfl, (blk_cell BK439.out 9).trans rfl, (blk_cell BK439.out 10).trans rfl⟩ (fun hHeld => ?_)
    clear hK K
    refine norm_ (a' := ?_) ?_ ?_
    rotate_left
    ·show Act.put _ (some 32) _ = _
     simp only [Act.put, List.setIfInBounds_toArray, List.set_cons_zero, List.set_cons_succ, i64_w, i32_w]
     rfl
    refine one_ (i := 3) (N := some 33) (bt_ 5 15) rfl rfl (by kernel_rfl) (by decide) (fun K hK => ?_)
    refine goes_ Try.func19 (by kernel_rfl) rfl #[.agg #[.int .i64 t469, .int .i64 t470, .slice Ao36 t471.length co36, .slice Ao37 t474.length co37, .slice Ao38 t477.length co38, .slice Ao39 t480.length co39, .slice Ao40 t483.length co40, .slice Ao41 t486.length co41, .slice Ao42 t489.length co42, .slice Ao43 t492.length co43, .int .i64 t495], .agg #[.int .i64 t498, .int .i64 t499, .slice Ao47 t500.length co47, .slice Ao48 t503.length co48, .slice Ao49 t506.length co49, .slice Ao50 t509.length co50, .slice Ao51 t512.length co51, .slice Ao52 t515.length co52, .slice Ao53 t518.length co53, .slice Ao54 t521.length co54, .int .i64 t524]] (by rfl) rfl rfl (by (try simp only [List.map_toArray, List.map_cons, List.map_nil]); first | done | rfl | (simp only [List.length_drop, List.length_take]; rfl)) ?_
    with_reducible refine (laws_eqNet.calls k t469 t470 _ _ t471 _ _ t474 _ _ t477 _ _ t480 _ _ t483 _ _ t486 _ _ t489 _ _ t492 t495 t498 t499 _ _ t500 _ _ t503 _ _ t506 _ _ t509 _ _ t512 _ _ t515 _ _ t518 _ _ t521 t524 true _ ?side1 ?side2 ?side3 ?side4 ?side5 ?side6 ?side7 ?side8 ?side9 ?side10 ?side11 ?side12 ?side13 ?side14 ?side15 ?side16 ?side17 ?side18 ?side19 ?side20 ?side21 ?side22 ?side23 ?side24 ?side25 ?side26 ?side27 ?side28 ?side29 ?side30 ?side31 ?side32 A15.out).mono ?_
    (case side1 => repeat (first | exact (Kd.R_reads' HO473.out).2.2 | (with_reducible refine Kd.C_alloc ?_ _) | (with_reducible refine Kd.C_drewN ?_ _) | (with_reducible refine Kd.C_drew ?_)))
    (case side2 => exact (Kd.R_reads' HO473.out).2.1)
    (case side3 => repeat (first | exact (Kd.R_reads' HO476.out).2.2 | (with_reducible refine Kd.C_alloc ?_ _) | (with_reducible refine Kd.C_drewN ?_ _) | (with_reducible refine Kd.C_drew ?_)))
    (case side4 => exact (Kd.R_reads' HO476.out).2.1)
    (case side5 => repeat (first | exact (Kd.R_reads' HO479.out).2.2 | (with_reducible refine Kd.C_alloc ?_ _) | (with_reducible refine Kd.C_drewN ?_ _) | (with_reducible refine Kd.C_drew ?_)))
    (case side6 => exact (Kd.R_reads' HO479.out).2.1)
    (case side7 => repeat (first | exact (Kd.S_reads' HO482.out).2.2 | (with_reducible refine Kd.C_alloc ?_ _) | (with_reducible refine Kd.C_drewN ?_ _) | (with_reducible refine Kd.C_drew ?_)))
    (case side8 => exact (Kd.S_reads' HO482.out).2.1)
    (case side9 => repeat (first | exact (Kd.R_reads' HO485.out).2.2 | (with_reducible refine Kd.C_alloc ?_ _) | (with_reducible refine Kd.C_drewN ?_ _) | (with_reducible refine Kd.C_drew ?_)))
    (case side10 => exact (Kd.R_reads' HO485.out).2.1)
    (case side11 => repeat (first | exact (Kd.R_reads' HO488.out).2.2 | (with_reducible refine Kd.C_alloc ?_ _) | (with_reducible refine Kd.C_drewN ?_ _) | (with_reducible refine Kd.C_drew ?_)))
    (case side12 => exact (Kd.R_reads' HO488.out).2.1)
    (case side13 => repeat (first | exact (Kd.S_reads' HO491.out).2.2 | (with_reducible refine Kd.C_alloc ?_ _) | (with_reducible refine Kd.C_drewN ?_ _) | (with_reducible refine Kd.C_drew ?_)))
    (case side14 => exact (Kd.S_reads' HO491.out).2.1)
    (case side15 => repeat (first | exact (Kd.S_reads' HO494.out).2.2 | (with_reducible refine Kd.C_alloc ?_ _) | (with_reducible refine Kd.C_drewN ?_ _) | (with_reducible refine Kd.C_drew ?_)))
    (case side16 => exact (Kd.S_reads' HO494.out).2.1)
    (case side17 => repeat (first | exact (Kd.R_reads' HO502.out).2.2 | (with_reducible refine Kd.C_alloc ?_ _) | (with_reducible refine Kd.C_drewN ?_ _) | (with_reducible refine Kd.C_drew ?_)))
    (case side18 => exact (Kd.R_reads' HO502.out).2.1)
    (case side19 => repeat (first | exact (Kd.R_reads' HO505.out).2.2 | (with_reducible refine Kd.C_alloc ?_ _) | (with_reducible refine Kd.C_drewN ?_ _) | (with_reducible refine Kd.C_drew ?_)))
    (case side20 => exact (Kd.R_reads' HO505.out).2.1)
    (case side21 => repeat (first | exact (Kd.R_reads' HO508.out).2.2 | (with_reducible refine Kd.C_alloc ?_ _) | (with_reducible refine Kd.C_drewN ?_ _) | (with_reducible refine Kd.C_drew ?_)))
    (case side22 => exact (Kd.R_reads' HO508.out).2.1)
    (case side23 => repeat (first | exact (Kd.S_reads' HO511.out).2.2 | (with_reducible refine Kd.C_alloc ?_ _) | (with_reducible refine Kd.C_drewN ?_ _) | (with_reducible refine Kd.C_drew ?_)))
    (case side24 => exact (Kd.S_reads' HO511.out).2.1)
    (case side25 => repeat (first | exact (Kd.R_reads' HO514.out).2.2 | (with_reducible refine Kd.C_alloc ?_ _) | (with_reducible refine Kd.C_drewN ?_ _) | (with_reducible refine Kd.C_drew ?_)))
    (case side26 => exact (Kd.R_reads' HO514.out).2.1)
    (case side27 => repeat (first | exact (Kd.R_reads' HO517.out).2.2 | (with_reducible refine Kd.C_alloc ?_ _) | (with_reducible refine Kd.C_drewN ?_ _) | (with_reducible refine Kd.C_drew ?_)))
    (case side28 => exact (Kd.R_reads' HO517.out).2.1)
    (case side29 => repeat (first | exact (Kd.S_reads' HO520.out).2.2 | (with_reducible refine Kd.C_alloc ?_ _) | (with_reducible refine Kd.C_drewN ?_ _) | (with_reducible refine Kd.C_drew ?_)))
    (case side30 => exact (Kd.S_reads' HO520.out).2.1)
    (case side31 => repeat (first | exact (Kd.S_reads' HO523.out).2.2 | (with_reducible refine Kd.C_alloc ?_ _) | (with_reducible refine Kd.C_drewN ?_ _) | (with_reducible refine Kd.C_drew ?_)))
    (case side32 => exact (Kd.S_reads' HO523.out).2.1)
    rintro e w55 ⟨rfl, hb⟩
    refine ⟨_, rfl, ?_⟩
    have n0_ := Aside0.mk (Kd.R_below (ra_ HO445.out) hb)
    have n1_ := Aside0.mk (Kd.R_below (ra_ HO448.out) hb)
    have n2_ := Aside0.mk (Kd.R_below (ra_ HO451.out) hb)
    have n3_ := Aside0.mk (Kd.S_below (sa_ HO454.out) hb)
    have n4_ := Aside0.mk (Kd.R_below (ra_ HO457.out) hb)
    have n5_ := Aside0.mk (Kd.R_below (ra_ HO460.out) hb)
    have n6_ := Aside0.mk (Kd.S_below (sa_ HO463.out) hb)
    have n7_ := Aside0.mk (Kd.S_below (sa_ HO466.out) hb)
    have n8_ := Aside0.mk (Kd.R_below (ra_ HO473.out) hb)
    have n9_ := Aside0.mk (Kd.R_below (ra_ HO476.out) hb)
    have n10_ := Aside0.mk (Kd.R_below (ra_ HO479.out) hb)
    have n11_ := Aside0.mk (Kd.S_below (sa_ HO482.out) hb)
    have n12_ := Aside0.mk (Kd.R_below (ra_ HO485.out) hb)
    have n13_ := Aside0.mk (Kd.R_below (ra_ HO488.out) hb)
    have n14_ := Aside0.mk (Kd.S_below (sa_ HO491.out) hb)
    have n15_ := Aside0.mk (Kd.S_below (sa_ HO494.out) hb)
    have n16_ := Aside0.mk (Kd.R_below (ra_ HO502.out) hb)
    have n17_ := Aside0.mk (Kd.R_below (ra_ HO505.out) hb)
    have n18_ := Aside0.mk (Kd.R_below (ra_ HO508.out) hb)
    have n19_ := Aside0.mk (Kd.S_below (sa_ HO511.out) hb)
    have n20_ := Aside0.mk (Kd.R_below (ra_ HO514.out) hb)
    have n21_ := Aside0.mk (Kd.R_below (ra_ HO517.out) hb)
    have n22_ := Aside0.mk (Kd.S_below (sa_ HO520.out) hb)
    have n23_ := Aside0.mk (Kd.S_below (sa_ HO523.out) hb)
    have n24_ := Aside0.mk (bk_ BK439.out hb)
    have n25_ := Aside0.mk (bk_ BK496.out hb)
    have n26_ := Aside0.mk (bs_ HB.out hb)
    clear HO445
    clear HO448
    clear HO451
    clear HO454
    clear HO457
    clear HO460
    clear HO463
    clear HO466
    clear HO473
    clear HO476
    clear HO479
    clear HO482
    clear HO485
    clear HO488
    clear HO491
    clear HO494
    clear HO502
    clear HO505
    clear HO508
    clear HO511
    clear HO514
    clear HO517
    clear HO520
    clear HO523
    clear BK439
    clear BK496
    clear HB
    have HO445 := n0_
    have HO448 := n1_
    have HO451 := n2_
    have HO454 := n3_
    have HO457 := n4_
    have HO460 := n5_
    have HO463 := n6_
    have HO466 := n7_
    have HO473 := n8_
    have HO476 := n9_
    have HO479 := n10_
    have HO482 := n11_
    have HO485 := n12_
    have HO488 := n13_
    have HO491 := n14_
    have HO494 := n15_
    have HO502 := n16_
    have HO505 := n17_
    have HO508 := n18_
    have HO511 := n19_
    have HO514 := n20_
    have HO517 := n21_
    have HO520 := n22_
    have HO523 := n23_
    have BK439 := n24_
    have BK496 := n25_
    have HB := n26_
    clear n0_ n1_ n2_ n3_ n4_ n5_ n6_ n7_ n8_ n9_ n10_ n11_ n12_ n13_ n14_ n15_ n16_ n17_ n18_ n19_ n20_ n21_ n22_ n23_ n24_ n25_ n26_
    (try clear hb)
    (try clear hb2)
    (try clear hk)
    (try clear hi)
    refine hK.out _ _ ⟨(blk_cell BK496.out 0).trans rfl, (blk_cell BK496.out 1).trans rfl, (blk_cell BK496.out 2).trans rfl, (blk_cell BK496.out 3).trans rfl, (blk_cell BK496.out 4).trans rfl, (blk_cell BK496.out 5).trans rfl, (blk_cell BK496.out 6).trans rfl, (blk_cell BK496.out 7).trans rfl, (blk_cell BK496.out 8).trans rfl, (blk_cell BK496.out 9).trans rfl, (blk_cell BK496.out 10).trans rfl, (blk_cell BK439.out 0).trans rfl, (blk_cell BK439.out 1).trans rfl, (blk_cell BK439.out 2).trans rfl, (blk_cell BK439.out 3).trans rfl, (blk_cell BK439.out 4).trans rfl, (blk_cell BK439.out 5).trans rfl, (blk_cell BK439.out 6).trans rfl, (blk_cell BK439.out 7).trans rfl, (blk_cell BK439.out 8).trans rfl, (blk_cell BK439.out 9).trans rfl, (blk_cell BK439.out 10).trans rfl⟩ (fun hHeld => ?_)
    clear hK K
    refine norm_ (a' := ?_) ?_ ?_
    rotate_left
    ·show Act.put _ (some 33) _ = _
     simp only [Act.put, List.setIfInBounds_toArray, List.set_cons_zero, List.set_cons_succ, i64_w, i32_w]
     rfl
    refine pure_ (i := 4) (N := some 34) (v := ?_) (a' := ?_) (bt_ 5 31) rfl rfl (by kernel_rfl) (fun _ _ _ h => h) (Or.inl ⟨by rfl, ?_⟩) ?_ ?_
    rotate_left
    ·intro w'
     go_simp
     with_reducible rfl
    rotate_left
    ·simp only [Act.put, List.setIfInBounds_toArray, List.set_cons_zero, List.set_cons_succ, i64_w, i32_w]
     rfl
    refine done_ (by kernel_rfl) ?_
    try go_wp2
    go_ret
    exact ⟨fin_, bb_ HB.out⟩
   ·replace c16 := Bool.eq_false_iff.mpr c16
    subst c16
    rw [if_neg (show ¬ (false = true) by decide)] at H
    exact absurd H (by simp)
  ·rw [if_neg c13] at H
   exact absurd H (by simp)

end Go.Proofs.Ythmfjdanmbcgbaa.PFnExactWantedPort
-- thin
