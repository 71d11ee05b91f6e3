/- Each function that the law comes to, as a plain function, with the proof that the call in the model gives what that function says (written by a program of this session out of the translation). No condition. -/
import Derived.Test.YthmfjdanmbcgbaaPFnExactHasRoomx0
import Derived.Test.YthmfjdanmbcgbaaPFnExactHasRoomx1
import Derived.Test.YthmfjdanmbcgbaaPFnExactHasRoomx2
import Derived.Test.YthmfjdanmbcgbaaPFnExactHasRoomx3
import Derived.Test.YthmfjdanmbcgbaaPFnExactHasRoomx9
import Derived.Test.YthmfjdanmbcgbaaPFnExactHasRoomx14
namespace Go.Proofs.Ythmfjdanmbcgbaa.PFnExactHasRoom
open Go.RowKit Go.Proofs.YthmfjdanmbcgbaaW.PrintWords Go.Proofs.YthmfjdanmbcgbaaW.PrintLast Go.Proofs.YthmfjdanmbcgbaaW.PrintMore
attribute [local go_sem] max2_int min2_int max_two min_two max_three min_three max_four min_four   -- for this text's walks alone
set_option linter.unusedVariables false
set_option linter.unusedSimpArgs false

/-! ### laws_FnExactHasRoom: function 6 -/
def laws_FnExactHasRoom.f (k : Nat) (a0_0 : Int) (a0_1 : Int) (l0_2 : List Int) (l0_3 : List Int) (l0_4 : List Int) (l0_5 : List (List (S132))) (l0_6 : List Int) (l0_7 : List Int) (l0_8 : List (List (S132))) (l0_9 : List (List (S132))) (a0_10 : Int) (a1 : Int) (a2 : Int) (a3 : Int) : Option (Bool) := (laws_szNet.f k a0_0 a0_1 l0_2 l0_3 l0_4 l0_5 l0_6 l0_7 l0_8 l0_9 a0_10 1048576).bind fun t439 => (if t439 < 0 then (some true) else ((laws_toNet.f k a0_0 a0_1 l0_2 l0_3 l0_4 l0_5 l0_6 l0_7 l0_8 l0_9 a0_10).bind fun bt440 => ((spec_HasRoom.f k bt440.1 bt440.2.1 bt440.2.2.1 bt440.2.2.2.1 bt440.2.2.2.2.1 bt440.2.2.2.2.2.1 bt440.2.2.2.2.2.2.1 bt440.2.2.2.2.2.2.2.1 bt440.2.2.2.2.2.2.2.2.1 bt440.2.2.2.2.2.2.2.2.2.1 bt440.2.2.2.2.2.2.2.2.2.2 a1 a2 a3).bind fun t467 => ((laws_toNet.f k a0_0 a0_1 l0_2 l0_3 l0_4 l0_5 l0_6 l0_7 l0_8 l0_9 a0_10).bind fun bt468 => ((impl_HasRoom.f k bt468.1 bt468.2.1 bt468.2.2.1 bt468.2.2.2.1 bt468.2.2.2.2.1 bt468.2.2.2.2.2.1 bt468.2.2.2.2.2.2.1 bt468.2.2.2.2.2.2.2.1 bt468.2.2.2.2.2.2.2.2.1 bt468.2.2.2.2.2.2.2.2.2.1 bt468.2.2.2.2.2.2.2.2.2.2 a1 a2 a3).bind fun t496 => (if (t496 != t467) = true then (none) else ((laws_toNet.f k a0_0 a0_1 l0_2 l0_3 l0_4 l0_5 l0_6 l0_7 l0_8 l0_9 a0_10).bind fun bt497 => ((laws_eqNet.f k bt468.1 bt468.2.1 bt468.2.2.1 bt468.2.2.2.1 bt468.2.2.2.2.1 bt468.2.2.2.2.2.1 bt468.2.2.2.2.2.2.1 bt468.2.2.2.2.2.2.2.1 bt468.2.2.2.2.2.2.2.2.1 bt468.2.2.2.2.2.2.2.2.2.1 bt468.2.2.2.2.2.2.2.2.2.2 bt497.1 bt497.2.1 bt497.2.2.1 bt497.2.2.2.1 bt497.2.2.2.2.1 bt497.2.2.2.2.2.1 bt497.2.2.2.2.2.2.1 bt497.2.2.2.2.2.2.2.1 bt497.2.2.2.2.2.2.2.2.1 bt497.2.2.2.2.2.2.2.2.2.1 bt497.2.2.2.2.2.2.2.2.2.2).bind fun t524 => (if t524 = true then (some true) else (none))))))))))
theorem laws_FnExactHasRoom.mono : ∀ a0 a1 a2 a3 a4 a5 a6 a7 a8 a9 a10 a11 a12 a13 k, LeO (laws_FnExactHasRoom.f k a0 a1 a2 a3 a4 a5 a6 a7 a8 a9 a10 a11 a12 a13) (laws_FnExactHasRoom.f (k + 1) a0 a1 a2 a3 a4 a5 a6 a7 a8 a9 a10 a11 a12 a13) := by
 intro a0 a1 a2 a3 a4 a5 a6 a7 a8 a9 a10 a11 a12 a13 k
 unfold laws_FnExactHasRoom.f
 repeat' first
   | (with_reducible exact impl_HasRoom.mono _ _ _ _ _ _ _ _ _ _ _ _ _ _ _)
   | (with_reducible exact laws_eqNet.mono _ _ _ _ _ _ _ _ _ _ _ _ _ _ _ _ _ _ _ _ _ _ _)
   | (with_reducible exact laws_szNet.mono _ _ _ _ _ _ _ _ _ _ _ _ _)
   | (with_reducible exact laws_toNet.mono _ _ _ _ _ _ _ _ _ _ _ _)
   | (with_reducible exact spec_HasRoom.mono _ _ _ _ _ _ _ _ _ _ _ _ _ _ _)
   | (with_reducible exact LeO.refl _)
   | (with_reducible exact LeO.none _)
   | (with_reducible refine LeO.ite ?_ ?_)
   | (with_reducible refine LeO.bind ?_ (fun _ => ?_))
   | exact impl_HasRoom.mono _ _ _ _ _ _ _ _ _ _ _ _ _ _ _
   | exact laws_eqNet.mono _ _ _ _ _ _ _ _ _ _ _ _ _ _ _ _ _ _ _ _ _ _ _
   | exact laws_szNet.mono _ _ _ _ _ _ _ _ _ _ _ _ _
   | exact laws_toNet.mono _ _ _ _ _ _ _ _ _ _ _ _
   | exact spec_HasRoom.mono _ _ _ _ _ _ _ _ _ _ _ _ _ _ _
   | exact LeO.none _
   | refine LeO.ite ?_ ?_
   | refine LeO.bind ?_ (fun _ => ?_)
set_option maxHeartbeats 8000000 in
set_option maxRecDepth 100000 in
theorem laws_FnExactHasRoom.calls (k : Nat) (a0_0 : Int) (a0_1 : Int) (A0_2 : Option Addr) (c0_2 : Nat) (l0_2 : List Int) (A0_3 : Option Addr) (c0_3 : Nat) (l0_3 : List Int) (A0_4 : Option Addr) (c0_4 : Nat) (l0_4 : List Int) (A0_5 : Option Addr) (c0_5 : Nat) (l0_5 : List (List (S132))) (A0_6 : Option Addr) (c0_6 : Nat) (l0_6 : List Int) (A0_7 : Option Addr) (c0_7 : Nat) (l0_7 : List Int) (A0_8 : Option Addr) (c0_8 : Nat) (l0_8 : List (List (S132))) (A0_9 : Option Addr) (c0_9 : Nat) (l0_9 : List (List (S132))) (a0_10 : Int) (a1 : Int) (a2 : Int) (a3 : Int) (r : Bool) (w : World) (hr0_2 : Kd.C (Kd.int .i64) w A0_2 l0_2.length l0_2) (hc0_2 : l0_2.length ≤ c0_2) (hr0_3 : Kd.C (Kd.int .i64) w A0_3 l0_3.length l0_3) (hc0_3 : l0_3.length ≤ c0_3) (hr0_4 : Kd.C (Kd.int .i64) w A0_4 l0_4.length l0_4) (hc0_4 : l0_4.length ≤ c0_4) (hr0_5 : Kd.C (Kd.slice 132 k132) w A0_5 l0_5.length l0_5) (hc0_5 : l0_5.length ≤ c0_5) (hr0_6 : Kd.C (Kd.int .i64) w A0_6 l0_6.length l0_6) (hc0_6 : l0_6.length ≤ c0_6) (hr0_7 : Kd.C (Kd.int .i64) w A0_7 l0_7.length l0_7) (hc0_7 : l0_7.length ≤ c0_7) (hr0_8 : Kd.C (Kd.slice 132 k132) w A0_8 l0_8.length l0_8) (hc0_8 : l0_8.length ≤ c0_8) (hr0_9 : Kd.C (Kd.slice 132 k132) w A0_9 l0_9.length l0_9) (hc0_9 : l0_9.length ≤ c0_9) (h : laws_FnExactHasRoom.f k a0_0 a0_1 l0_2 l0_3 l0_4 l0_5 l0_6 l0_7 l0_8 l0_9 a0_10 a1 a2 a3 = some r) :
  Calls Try.prog 6 #[.agg #[.int .i64 a0_0, .int .i64 a0_1, .slice A0_2 l0_2.length c0_2, .slice A0_3 l0_3.length c0_3, .slice A0_4 l0_4.length c0_4, .slice A0_5 l0_5.length c0_5, .slice A0_6 l0_6.length c0_6, .slice A0_7 l0_7.length c0_7, .slice A0_8 l0_8.length c0_8, .slice A0_9 l0_9.length c0_9, .int .i64 a0_10], .int .i64 a1, .int .i64 a2, .int .i64 a3] w fun e w' => e = .returned (.bool r) ∧ Below w.heap.size w w' := by
 have hu33 := Try.underlying33
 have hu44 := Try.underlying44
 have HR0_2 := Aside0.mk hr0_2
 have HC0_2 := Aside0.mk hc0_2
 clear hr0_2 hc0_2
 have HR0_3 := Aside0.mk hr0_3
 have HC0_3 := Aside0.mk hc0_3
 clear hr0_3 hc0_3
 have HR0_4 := Aside0.mk hr0_4
 have HC0_4 := Aside0.mk hc0_4
 clear hr0_4 hc0_4
 have HR0_5 := Aside0.mk hr0_5
 have HC0_5 := Aside0.mk hc0_5
 clear hr0_5 hc0_5
 have HR0_6 := Aside0.mk hr0_6
 have HC0_6 := Aside0.mk hc0_6
 clear hr0_6 hc0_6
 have HR0_7 := Aside0.mk hr0_7
 have HC0_7 := Aside0.mk hc0_7
 clear hr0_7 hc0_7
 have HR0_8 := Aside0.mk hr0_8
 have HC0_8 := Aside0.mk hc0_8
 clear hr0_8 hc0_8
 have HR0_9 := Aside0.mk hr0_9
 have HC0_9 := Aside0.mk hc0_9
 clear hr0_9 hc0_9
 have HB := Aside0.mk (Below.refl w.heap.size w)
 have H : ((laws_szNet.f k a0_0 a0_1 l0_2 l0_3 l0_4 l0_5 l0_6 l0_7 l0_8 l0_9 a0_10 1048576).bind fun t439 => (if t439 < 0 then (some true) else ((laws_toNet.f k a0_0 a0_1 l0_2 l0_3 l0_4 l0_5 l0_6 l0_7 l0_8 l0_9 a0_10).bind fun bt440 => ((spec_HasRoom.f k bt440.1 bt440.2.1 bt440.2.2.1 bt440.2.2.2.1 bt440.2.2.2.2.1 bt440.2.2.2.2.2.1 bt440.2.2.2.2.2.2.1 bt440.2.2.2.2.2.2.2.1 bt440.2.2.2.2.2.2.2.2.1 bt440.2.2.2.2.2.2.2.2.2.1 bt440.2.2.2.2.2.2.2.2.2.2 a1 a2 a3).bind fun t467 => ((laws_toNet.f k a0_0 a0_1 l0_2 l0_3 l0_4 l0_5 l0_6 l0_7 l0_8 l0_9 a0_10).bind fun bt468 => ((impl_HasRoom.f k bt468.1 bt468.2.1 bt468.2.2.1 bt468.2.2.2.1 bt468.2.2.2.2.1 bt468.2.2.2.2.2.1 bt468.2.2.2.2.2.2.1 bt468.2.2.2.2.2.2.2.1 bt468.2.2.2.2.2.2.2.2.1 bt468.2.2.2.2.2.2.2.2.2.1 bt468.2.2.2.2.2.2.2.2.2.2 a1 a2 a3).bind fun t496 => (if (t496 != t467) = true then (none) else ((laws_toNet.f k a0_0 a0_1 l0_2 l0_3 l0_4 l0_5 l0_6 l0_7 l0_8 l0_9 a0_10).bind fun bt497 => ((laws_eqNet.f k bt468.1 bt468.2.1 bt468.2.2.1 bt468.2.2.2.1 bt468.2.2.2.2.1 bt468.2.2.2.2.2.1 bt468.2.2.2.2.2.2.1 bt468.2.2.2.2.2.2.2.1 bt468.2.2.2.2.2.2.2.2.1 bt468.2.2.2.2.2.2.2.2.2.1 bt468.2.2.2.2.2.2.2.2.2.2 bt497.1 bt497.2.1 bt497.2.2.1 bt497.2.2.2.1 bt497.2.2.2.2.1 bt497.2.2.2.2.2.1 bt497.2.2.2.2.2.2.1 bt497.2.2.2.2.2.2.2.1 bt497.2.2.2.2.2.2.2.2.1 bt497.2.2.2.2.2.2.2.2.2.1 bt497.2.2.2.2.2.2.2.2.2.2).bind fun t524 => (if t524 = true then (some true) else (none))))))))))) = some r := h
 clear h
 replace H := Option.bind_eq_some_iff.mp H
 obtain ⟨t439, A50, H⟩ := H
 try dsimp only at H
 have A5 := Aside0.mk A50
 clear A50
 by_cases c6 : t439 < 0
 ·rw [if_pos c6] at H
  have c6b0 : decide (t439 < 0) = true := decide_eq_true c6
  clear c6
  obtain rfl := Option.some.inj H
  go_enter Try.func6, Try.ntmps6
  go_wp2_with (first | ((with_reducible refine gate_dst (N := 4) rfl ?_); refine box_event ?hg (N := 4) ?hd (cs := #[.int .i64 a0_0, .int .i64 a0_1, .slice A0_2 l0_2.length c0_2, .slice A0_3 l0_3.length c0_3, .slice A0_4 l0_4.length c0_4, .slice A0_5 l0_5.length c0_5, .slice A0_6 l0_6.length c0_6, .slice A0_7 l0_7.length c0_7, .slice A0_8 l0_8.length c0_8, .slice A0_9 l0_9.length c0_9, .int .i64 a0_10]) (t := 33) ?hr ?_; (case hd => rfl); (case hg => rfl); (case hr => first | (go_simp; done) | (go_simp; rfl)); intro gb438 hg w7 hbox hb; have BK438 := Aside0.mk (hbox); have GW438 := Aside0.mk ((by rw [hg]; exact (bz_ HB.out) : w.heap.size ≤ gb438)); have GE438 := Aside0.mk ((by rw [hg]; exact (bz_ HB.out) : w.heap.size ≤ gb438)); replace HB := Aside0.mk (bs_ HB.out hb); clear hb hbox hg; obtain ⟨hcz8_0, hcz8_1, hcz8_2, hcz8_3, hcz8_4, hcz8_5, hcz8_6, hcz8_7, hcz8_8, hcz8_9, hcz8_10, hfz8_0, hfz8_1, hfz8_2, hfz8_3, hfz8_4, hfz8_5, hfz8_6, hfz8_7, hfz8_8, hfz8_9, hfz8_10⟩ := cz11_ BK438.out) | ((with_reducible refine gate_callee (f := 15) rfl ?_); refine gm_ (some 15) Try.func15 #[.agg #[.int .i64 a0_0, .int .i64 a0_1, .slice A0_2 l0_2.length c0_2, .slice A0_3 l0_3.length c0_3, .slice A0_4 l0_4.length c0_4, .slice A0_5 l0_5.length c0_5, .slice A0_6 l0_6.length c0_6, .slice A0_7 l0_7.length c0_7, .slice A0_8 l0_8.length c0_8, .slice A0_9 l0_9.length c0_9, .int .i64 a0_10], .int .i64 1048576] rfl ?_; (with_reducible refine (laws_szNet.calls k a0_0 a0_1 _ _ l0_2 _ _ l0_3 _ _ l0_4 _ _ l0_5 _ _ l0_6 _ _ l0_7 _ _ l0_8 _ _ l0_9 a0_10 1048576 t439 _ ?side1 HC0_2.out ?side3 HC0_3.out ?side5 HC0_4.out ?side7 HC0_5.out ?side9 HC0_6.out ?side11 HC0_7.out ?side13 HC0_8.out ?side15 HC0_9.out A5.out).mono ?_); (case side1 => exact cb_ HR0_2.out HB.out); (case side3 => exact cb_ HR0_3.out HB.out); (case side5 => exact cb_ HR0_4.out HB.out); (case side7 => exact cb_ HR0_5.out HB.out); (case side9 => exact cb_ HR0_6.out HB.out); (case side11 => exact cb_ HR0_7.out HB.out); (case side13 => exact cb_ HR0_8.out HB.out); (case side15 => exact cb_ HR0_9.out HB.out); rintro e w9 ⟨rfl, hb⟩; refine ⟨_, rfl, ?_⟩; replace BK438 := Aside0.mk (bk_ BK438.out hb); replace HB := Aside0.mk (bs_ HB.out hb); (try clear hb)))
  go_ret
  exact ⟨fin_, bb_ HB.out⟩
 ·rw [if_neg c6] at H
  have c6b0 : decide (t439 < 0) = false := decide_eq_false c6
  clear c6
  replace H := Option.bind_eq_some_iff.mp H
  obtain ⟨⟨t440, t441, t442, t445, t448, t451, t454, t457, t460, t463, t466⟩, A100, H⟩ := H
  try dsimp only at H
  have A10 := Aside0.mk A100
  clear A100
  replace H := Option.bind_eq_some_iff.mp H
  obtain ⟨t467, A110, H⟩ := H
  try dsimp only at H
  have A11 := Aside0.mk A110
  clear A110
  replace H := Option.bind_eq_some_iff.mp H
  obtain ⟨⟨t468, t469, t470, t473, t476, t479, t482, t485, t488, t491, t494⟩, A120, H⟩ := H
  try dsimp only at H
  have A12 := Aside0.mk A120
  clear A120
  replace H := Option.bind_eq_some_iff.mp H
  obtain ⟨t496, A130, H⟩ := H
  try dsimp only at H
  have A13 := Aside0.mk A130
  clear A130
  by_cases c14 : (t496 != t467) = true
  ·rw [if_pos c14] at H
   exact absurd H (by simp)
  ·rw [if_neg c14] at H
   have c14b0 : (t496 != t467) = false := by simpa using c14
   (try (have c14b1 : decide (t496 = t467) = true := by simpa using c14))
   (try (have c14b2 : (t496 == t467) = true := by simpa using c14))
   clear c14
   replace H := Option.bind_eq_some_iff.mp H
   obtain ⟨⟨t497, t498, t499, t502, t505, t508, t511, t514, t517, t520, t523⟩, A150, H⟩ := H
   try dsimp only at H
   have A15 := Aside0.mk A150
   clear A150
   replace H := Option.bind_eq_some_iff.mp H
   obtain ⟨t524, A160, H⟩ := H
   try dsimp only at H
   have A16 := Aside0.mk A160
   clear A160
   by_cases c17 : t524 = true
   ·subst c17
    rw [if_pos rfl] at H
    obtain rfl := Option.some.inj H
    go_enter Try.func6, Try.ntmps6
    try go_wp2_with (first | ((with_reducible refine gate_dst (N := 4) rfl ?_); refine box_event ?hg (N := 4) ?hd (cs := #[.int .i64 a0_0, .int .i64 a0_1, .slice A0_2 l0_2.length c0_2, .slice A0_3 l0_3.length c0_3, .slice A0_4 l0_4.length c0_4, .slice A0_5 l0_5.length c0_5, .slice A0_6 l0_6.length c0_6, .slice A0_7 l0_7.length c0_7, .slice A0_8 l0_8.length c0_8, .slice A0_9 l0_9.length c0_9, .int .i64 a0_10]) (t := 33) ?hr ?_; (case hd => rfl); (case hg => rfl); (case hr => first | (go_simp; done) | (go_simp; rfl)); intro gb438 hg w18 hbox hb; have BK438 := Aside0.mk (hbox); have GW438 := Aside0.mk ((by rw [hg]; exact (bz_ HB.out) : w.heap.size ≤ gb438)); have GE438 := Aside0.mk ((by rw [hg]; exact (bz_ HB.out) : w.heap.size ≤ gb438)); replace HB := Aside0.mk (bs_ HB.out hb); clear hb hbox hg; obtain ⟨hcz19_0, hcz19_1, hcz19_2, hcz19_3, hcz19_4, hcz19_5, hcz19_6, hcz19_7, hcz19_8, hcz19_9, hcz19_10, hfz19_0, hfz19_1, hfz19_2, hfz19_3, hfz19_4, hfz19_5, hfz19_6, hfz19_7, hfz19_8, hfz19_9, hfz19_10⟩ := cz11_ BK438.out) | ((with_reducible refine gate_callee (f := 15) rfl ?_); refine gm_ (some 15) Try.func15 #[.agg #[.int .i64 a0_0, .int .i64 a0_1, .slice A0_2 l0_2.length c0_2, .slice A0_3 l0_3.length c0_3, .slice A0_4 l0_4.length c0_4, .slice A0_5 l0_5.length c0_5, .slice A0_6 l0_6.length c0_6, .slice A0_7 l0_7.length c0_7, .slice A0_8 l0_8.length c0_8, .slice A0_9 l0_9.length c0_9, .int .i64 a0_10], .int .i64 1048576] rfl ?_; (with_reducible refine (laws_szNet.calls k a0_0 a0_1 _ _ l0_2 _ _ l0_3 _ _ l0_4 _ _ l0_5 _ _ l0_6 _ _ l0_7 _ _ l0_8 _ _ l0_9 a0_10 1048576 t439 _ ?side1 HC0_2.out ?side3 HC0_3.out ?side5 HC0_4.out ?side7 HC0_5.out ?side9 HC0_6.out ?side11 HC0_7.out ?side13 HC0_8.out ?side15 HC0_9.out A5.out).mono ?_); (case side1 => exact cb_ HR0_2.out HB.out); (case side3 => exact cb_ HR0_3.out HB.out); (case side5 => exact cb_ HR0_4.out HB.out); (case side7 => exact cb_ HR0_5.out HB.out); (case side9 => exact cb_ HR0_6.out HB.out); (case side11 => exact cb_ HR0_7.out HB.out); (case side13 => exact cb_ HR0_8.out HB.out); (case side15 => exact cb_ HR0_9.out HB.out); rintro e w20 ⟨rfl, hb⟩; refine ⟨_, rfl, ?_⟩; replace BK438 := Aside0.mk (bk_ BK438.out hb); replace HB := Aside0.mk (bs_ HB.out hb); (try clear hb); obtain ⟨hcz21_0, hcz21_1, hcz21_2, hcz21_3, hcz21_4, hcz21_5, hcz21_6, hcz21_7, hcz21_8, hcz21_9, hcz21_10, hfz21_0, hfz21_1, hfz21_2, hfz21_3, hfz21_4, hfz21_5, hfz21_6, hfz21_7, hfz21_8, hfz21_9, hfz21_10⟩ := cz11_ BK438.out) | ((with_reducible refine gate_callee (f := 17) rfl ?_); refine gm_ (some 19) Try.func17 #[.agg #[.int .i64 a0_0, .int .i64 a0_1, .slice A0_2 l0_2.length c0_2, .slice A0_3 l0_3.length c0_3, .slice A0_4 l0_4.length c0_4, .slice A0_5 l0_5.length c0_5, .slice A0_6 l0_6.length c0_6, .slice A0_7 l0_7.length c0_7, .slice A0_8 l0_8.length c0_8, .slice A0_9 l0_9.length c0_9, .int .i64 a0_10]] rfl ?_; (with_reducible refine (laws_toNet.calls k a0_0 a0_1 _ _ l0_2 _ _ l0_3 _ _ l0_4 _ _ l0_5 _ _ l0_6 _ _ l0_7 _ _ l0_8 _ _ l0_9 a0_10 t440 t441 t442 t445 t448 t451 t454 t457 t460 t463 t466 _ ?side1 HC0_2.out ?side3 HC0_3.out ?side5 HC0_4.out ?side7 HC0_5.out ?side9 HC0_6.out ?side11 HC0_7.out ?side13 HC0_8.out ?side15 HC0_9.out A10.out).mono ?_); (case side1 => exact cb_ HR0_2.out HB.out); (case side3 => exact cb_ HR0_3.out HB.out); (case side5 => exact cb_ HR0_4.out HB.out); (case side7 => exact cb_ HR0_5.out HB.out); (case side9 => exact cb_ HR0_6.out HB.out); (case side11 => exact cb_ HR0_7.out HB.out); (case side13 => exact cb_ HR0_8.out HB.out); (case side15 => exact cb_ HR0_9.out HB.out); rintro e w22 ⟨v443, v446, v449, v452, v455, v458, v461, v464, rfl, ho0, ho1, ho2, ho3, ho4, ho5, ho6, ho7, hb⟩; refine ⟨_, rfl, ?_⟩; have HO444 := Aside0.mk (Kd.R_lower ho0 (bz_ HB.out)); have HO447 := Aside0.mk (Kd.R_lower ho1 (bz_ HB.out)); have HO450 := Aside0.mk (Kd.R_lower ho2 (bz_ HB.out)); have HO453 := Aside0.mk (Kd.S_lower ho3 (bz_ HB.out)); have HO456 := Aside0.mk (Kd.R_lower ho4 (bz_ HB.out)); have HO459 := Aside0.mk (Kd.R_lower ho5 (bz_ HB.out)); have HO462 := Aside0.mk (Kd.S_lower ho6 (bz_ HB.out)); have HO465 := Aside0.mk (Kd.S_lower ho7 (bz_ HB.out)); replace BK438 := Aside0.mk (bk_ BK438.out hb); replace HB := Aside0.mk (bs_ HB.out hb); (try clear hb); (try clear ho0); (try clear ho1); (try clear ho2); (try clear ho3); (try clear ho4); (try clear ho5); (try clear ho6); (try clear ho7); obtain ⟨Ao23, co23, eo23⟩ := Kd.R_slice HO444.out; subst eo23; obtain ⟨Ao24, co24, eo24⟩ := Kd.R_slice HO447.out; subst eo24; obtain ⟨Ao25, co25, eo25⟩ := Kd.R_slice HO450.out; subst eo25; obtain ⟨Ao26, co26, eo26⟩ := Kd.S_slice HO453.out; subst eo26; obtain ⟨Ao27, co27, eo27⟩ := Kd.R_slice HO456.out; subst eo27; obtain ⟨Ao28, co28, eo28⟩ := Kd.R_slice HO459.out; subst eo28; obtain ⟨Ao29, co29, eo29⟩ := Kd.S_slice HO462.out; subst eo29; obtain ⟨Ao30, co30, eo30⟩ := Kd.S_slice HO465.out; subst eo30) | ((with_reducible refine gate_callee (f := 24) rfl ?_); refine gm_ (some 23) Try.func24 #[.agg #[.int .i64 t440, .int .i64 t441, .slice Ao23 t442.length co23, .slice Ao24 t445.length co24, .slice Ao25 t448.length co25, .slice Ao26 t451.length co26, .slice Ao27 t454.length co27, .slice Ao28 t457.length co28, .slice Ao29 t460.length co29, .slice Ao30 t463.length co30, .int .i64 t466], .int .i64 a1, .int .i64 a2, .int .i64 a3] rfl ?_; (with_reducible refine (spec_HasRoom.calls k t440 t441 _ _ t442 _ _ t445 _ _ t448 _ _ t451 _ _ t454 _ _ t457 _ _ t460 _ _ t463 t466 a1 a2 a3 t467 _ ?side1 ?side2 ?side3 ?side4 ?side5 ?side6 ?side7 ?side8 ?side9 ?side10 ?side11 ?side12 ?side13 ?side14 ?side15 ?side16 A11.out).mono ?_); (case side1 => repeat (first | exact (Kd.R_reads' HO444.out).2.2 | (with_reducible refine Kd.C_alloc ?_ _) | (with_reducible refine Kd.C_drewN ?_ _) | (with_reducible refine Kd.C_drew ?_))); (case side2 => exact (Kd.R_reads' HO444.out).2.1); (case side3 => repeat (first | exact (Kd.R_reads' HO447.out).2.2 | (with_reducible refine Kd.C_alloc ?_ _) | (with_reducible refine Kd.C_drewN ?_ _) | (with_reducible refine Kd.C_drew ?_))); (case side4 => exact (Kd.R_reads' HO447.out).2.1); (case side5 => repeat (first | exact (Kd.R_reads' HO450.out).2.2 | (with_reducible refine Kd.C_alloc ?_ _) | (with_reducible refine Kd.C_drewN ?_ _) | (with_reducible refine Kd.C_drew ?_))); (case side6 => exact (Kd.R_reads' HO450.out).2.1); (case side7 => repeat (first | exact (Kd.S_reads' HO453.out).2.2 | (with_reducible refine Kd.C_alloc ?_ _) | (with_reducible refine Kd.C_drewN ?_ _) | (with_reducible refine Kd.C_drew ?_))); (case side8 => exact (Kd.S_reads' HO453.out).2.1); (case side9 => repeat (first | exact (Kd.R_reads' HO456.out).2.2 | (with_reducible refine Kd.C_alloc ?_ _) | (with_reducible refine Kd.C_drewN ?_ _) | (with_reducible refine Kd.C_drew ?_))); (case side10 => exact (Kd.R_reads' HO456.out).2.1); (case side11 => repeat (first | exact (Kd.R_reads' HO459.out).2.2 | (with_reducible refine Kd.C_alloc ?_ _) | (with_reducible refine Kd.C_drewN ?_ _) | (with_reducible refine Kd.C_drew ?_))); (case side12 => exact (Kd.R_reads' HO459.out).2.1); (case side13 => repeat (first | exact (Kd.S_reads' HO462.out).2.2 | (with_reducible refine Kd.C_alloc ?_ _) | (with_reducible refine Kd.C_drewN ?_ _) | (with_reducible refine Kd.C_drew ?_))); (case side14 => exact (Kd.S_reads' HO462.out).2.1); (case side15 => repeat (first | exact (Kd.S_reads' HO465.out).2.2 | (with_reducible refine Kd.C_alloc ?_ _) | (with_reducible refine Kd.C_drewN ?_ _) | (with_reducible refine Kd.C_drew ?_))); (case side16 => exact (Kd.S_reads' HO465.out).2.1); rintro e w31 ⟨rfl, hb⟩; refine ⟨_, rfl, ?_⟩; replace HO444 := Aside0.mk (Kd.R_below (ra_ HO444.out) hb); replace HO447 := Aside0.mk (Kd.R_below (ra_ HO447.out) hb); replace HO450 := Aside0.mk (Kd.R_below (ra_ HO450.out) hb); replace HO453 := Aside0.mk (Kd.S_below (sa_ HO453.out) hb); replace HO456 := Aside0.mk (Kd.R_below (ra_ HO456.out) hb); replace HO459 := Aside0.mk (Kd.R_below (ra_ HO459.out) hb); replace HO462 := Aside0.mk (Kd.S_below (sa_ HO462.out) hb); replace HO465 := Aside0.mk (Kd.S_below (sa_ HO465.out) hb); replace BK438 := Aside0.mk (bk_ BK438.out hb); replace HB := Aside0.mk (bs_ HB.out hb); (try clear hb); obtain ⟨hcz32_0, hcz32_1, hcz32_2, hcz32_3, hcz32_4, hcz32_5, hcz32_6, hcz32_7, hcz32_8, hcz32_9, hcz32_10, hfz32_0, hfz32_1, hfz32_2, hfz32_3, hfz32_4, hfz32_5, hfz32_6, hfz32_7, hfz32_8, hfz32_9, hfz32_10⟩ := cz11_ BK438.out) | ((with_reducible refine gate_callee (f := 17) rfl ?_); refine gm_ (some 25) Try.func17 #[.agg #[.int .i64 a0_0, .int .i64 a0_1, .slice A0_2 l0_2.length c0_2, .slice A0_3 l0_3.length c0_3, .slice A0_4 l0_4.length c0_4, .slice A0_5 l0_5.length c0_5, .slice A0_6 l0_6.length c0_6, .slice A0_7 l0_7.length c0_7, .slice A0_8 l0_8.length c0_8, .slice A0_9 l0_9.length c0_9, .int .i64 a0_10]] rfl ?_; (with_reducible refine (laws_toNet.calls k a0_0 a0_1 _ _ l0_2 _ _ l0_3 _ _ l0_4 _ _ l0_5 _ _ l0_6 _ _ l0_7 _ _ l0_8 _ _ l0_9 a0_10 t468 t469 t470 t473 t476 t479 t482 t485 t488 t491 t494 _ ?side1 HC0_2.out ?side3 HC0_3.out ?side5 HC0_4.out ?side7 HC0_5.out ?side9 HC0_6.out ?side11 HC0_7.out ?side13 HC0_8.out ?side15 HC0_9.out A12.out).mono ?_); (case side1 => exact cb_ HR0_2.out HB.out); (case side3 => exact cb_ HR0_3.out HB.out); (case side5 => exact cb_ HR0_4.out HB.out); (case side7 => exact cb_ HR0_5.out HB.out); (case side9 => exact cb_ HR0_6.out HB.out); (case side11 => exact cb_ HR0_7.out HB.out); (case side13 => exact cb_ HR0_8.out HB.out); (case side15 => exact cb_ HR0_9.out HB.out); rintro e w33 ⟨v471, v474, v477, v480, v483, v486, v489, v492, rfl, ho0, ho1, ho2, ho3, ho4, ho5, ho6, ho7, hb⟩; refine ⟨_, rfl, ?_⟩; have HO472 := Aside0.mk (Kd.R_lower (Kd.R_new' (Kd.R_new' (Kd.R_new' (Kd.R_new' (Kd.R_new' ho0 (rl_ HO444.out)) (rl_ HO447.out)) (rl_ HO450.out)) (rl_ HO456.out)) (rl_ HO459.out)) (bz_ HB.out)); have HO475 := Aside0.mk (Kd.R_lower (Kd.R_new' (Kd.R_new' (Kd.R_new' (Kd.R_new' (Kd.R_new' ho1 (rl_ HO444.out)) (rl_ HO447.out)) (rl_ HO450.out)) (rl_ HO456.out)) (rl_ HO459.out)) (bz_ HB.out)); have HO478 := Aside0.mk (Kd.R_lower (Kd.R_new' (Kd.R_new' (Kd.R_new' (Kd.R_new' (Kd.R_new' ho2 (rl_ HO444.out)) (rl_ HO447.out)) (rl_ HO450.out)) (rl_ HO456.out)) (rl_ HO459.out)) (bz_ HB.out)); have HO481 := Aside0.mk (Kd.S_lower (Kd.S_new' (Kd.S_new' (Kd.S_new' ho3 (sl_ HO453.out)) (sl_ HO462.out)) (sl_ HO465.out)) (bz_ HB.out)); have HO484 := Aside0.mk (Kd.R_lower (Kd.R_new' (Kd.R_new' (Kd.R_new' (Kd.R_new' (Kd.R_new' ho4 (rl_ HO444.out)) (rl_ HO447.out)) (rl_ HO450.out)) (rl_ HO456.out)) (rl_ HO459.out)) (bz_ HB.out)); have HO487 := Aside0.mk (Kd.R_lower (Kd.R_new' (Kd.R_new' (Kd.R_new' (Kd.R_new' (Kd.R_new' ho5 (rl_ HO444.out)) (rl_ HO447.out)) (rl_ HO450.out)) (rl_ HO456.out)) (rl_ HO459.out)) (bz_ HB.out)); replace HO444 := Aside0.mk (Kd.R_mono (Kd.R_told (Kd.R_told (Kd.R_told (Kd.R_told (Kd.R_told (Kd.R_old (ra_ HO444.out) hb) (Kd.R_base ho0)) (Kd.R_base ho1)) (Kd.R_base ho2)) (Kd.R_base ho4)) (Kd.R_base ho5)) (fun _ h_ => h_.1)); replace HO447 := Aside0.mk (Kd.R_mono (Kd.R_told (Kd.R_told (Kd.R_told (Kd.R_told (Kd.R_told (Kd.R_old (ra_ HO447.out) hb) (Kd.R_base ho0)) (Kd.R_base ho1)) (Kd.R_base ho2)) (Kd.R_base ho4)) (Kd.R_base ho5)) (fun _ h_ => h_.1)); replace HO450 := Aside0.mk (Kd.R_mono (Kd.R_told (Kd.R_told (Kd.R_told (Kd.R_told (Kd.R_told (Kd.R_old (ra_ HO450.out) hb) (Kd.R_base ho0)) (Kd.R_base ho1)) (Kd.R_base ho2)) (Kd.R_base ho4)) (Kd.R_base ho5)) (fun _ h_ => h_.1)); replace HO456 := Aside0.mk (Kd.R_mono (Kd.R_told (Kd.R_told (Kd.R_told (Kd.R_told (Kd.R_told (Kd.R_old (ra_ HO456.out) hb) (Kd.R_base ho0)) (Kd.R_base ho1)) (Kd.R_base ho2)) (Kd.R_base ho4)) (Kd.R_base ho5)) (fun _ h_ => h_.1)); replace HO459 := Aside0.mk (Kd.R_mono (Kd.R_told (Kd.R_told (Kd.R_told (Kd.R_told (Kd.R_told (Kd.R_old (ra_ HO459.out) hb) (Kd.R_base ho0)) (Kd.R_base ho1)) (Kd.R_base ho2)) (Kd.R_base ho4)) (Kd.R_base ho5)) (fun _ h_ => h_.1)); have HO490 := Aside0.mk (Kd.S_lower (Kd.S_new' (Kd.S_new' (Kd.S_new' ho6 (sl_ HO453.out)) (sl_ HO462.out)) (sl_ HO465.out)) (bz_ HB.out)); have HO493 := Aside0.mk (Kd.S_lower (Kd.S_new' (Kd.S_new' (Kd.S_new' ho7 (sl_ HO453.out)) (sl_ HO462.out)) (sl_ HO465.out)) (bz_ HB.out)); replace HO453 := Aside0.mk (Kd.S_mono (Kd.S_told (Kd.S_told (Kd.S_told (Kd.S_old (sa_ HO453.out) hb) (Kd.S_base ho3)) (Kd.S_base ho6)) (Kd.S_base ho7)) (fun _ h_ => h_.1)); replace HO462 := Aside0.mk (Kd.S_mono (Kd.S_told (Kd.S_told (Kd.S_told (Kd.S_old (sa_ HO462.out) hb) (Kd.S_base ho3)) (Kd.S_base ho6)) (Kd.S_base ho7)) (fun _ h_ => h_.1)); replace HO465 := Aside0.mk (Kd.S_mono (Kd.S_told (Kd.S_told (Kd.S_told (Kd.S_old (sa_ HO465.out) hb) (Kd.S_base ho3)) (Kd.S_base ho6)) (Kd.S_base ho7)) (fun _ h_ => h_.1)); replace BK438 := Aside0.mk (bk_ BK438.out hb); replace HB := Aside0.mk (bs_ HB.out hb); (try clear hb); (try clear ho0); (try clear ho1); (try clear ho2); (try clear ho3); (try clear ho4); (try clear ho5); (try clear ho6); (try clear ho7)) | ((with_reducible refine gate_dst (N := 11) rfl ?_); refine box_event ?hg (N := 11) ?hd (cs := #[.int .i64 0, .int .i64 0, .slice none 0 0, .slice none 0 0, .slice none 0 0, .slice none 0 0, .slice none 0 0, .slice none 0 0, .slice none 0 0, .slice none 0 0, .int .i64 0]) (t := 44) ?hr ?_; (case hd => rfl); (case hg => rfl); (case hr => first | (go_simp; done) | (go_simp; rfl)); intro gb495 hg w34 hbox hb; replace HO444 := Aside0.mk (Kd.R_below (ra_ HO444.out) hb); replace HO447 := Aside0.mk (Kd.R_below (ra_ HO447.out) hb); replace HO450 := Aside0.mk (Kd.R_below (ra_ HO450.out) hb); replace HO453 := Aside0.mk (Kd.S_below (sa_ HO453.out) hb); replace HO456 := Aside0.mk (Kd.R_below (ra_ HO456.out) hb); replace HO459 := Aside0.mk (Kd.R_below (ra_ HO459.out) hb); replace HO462 := Aside0.mk (Kd.S_below (sa_ HO462.out) hb); replace HO465 := Aside0.mk (Kd.S_below (sa_ HO465.out) hb); replace HO472 := Aside0.mk (Kd.R_below (ra_ HO472.out) hb); replace HO475 := Aside0.mk (Kd.R_below (ra_ HO475.out) hb); replace HO478 := Aside0.mk (Kd.R_below (ra_ HO478.out) hb); replace HO481 := Aside0.mk (Kd.S_below (sa_ HO481.out) hb); replace HO484 := Aside0.mk (Kd.R_below (ra_ HO484.out) hb); replace HO487 := Aside0.mk (Kd.R_below (ra_ HO487.out) hb); replace HO490 := Aside0.mk (Kd.S_below (sa_ HO490.out) hb); replace HO493 := Aside0.mk (Kd.S_below (sa_ HO493.out) hb); have BK495 := Aside0.mk (hbox); have GW495 := Aside0.mk ((by rw [hg]; exact (bz_ HB.out) : w.heap.size ≤ gb495)); have GE495 := Aside0.mk ((by rw [hg]; exact (bz_ HB.out) : w.heap.size ≤ gb495)); replace HB := Aside0.mk (bs_ HB.out hb); have NB438_495 := Aside0.mk ((by rw [hg]; exact Nat.ne_of_lt (bl_ BK438.out) : gb438 ≠ gb495)); have NB495_438 := Aside0.mk ((by rw [hg]; exact Nat.ne_of_gt (bl_ BK438.out) : gb495 ≠ gb438)); replace BK438 := Aside0.mk (bk_ BK438.out hb); clear hb hbox hg; have hnb35 := NB495_438.out; have hnc35 := NB438_495.out; obtain ⟨hcz36_0, hcz36_1, hcz36_2, hcz36_3, hcz36_4, hcz36_5, hcz36_6, hcz36_7, hcz36_8, hcz36_9, hcz36_10, hfz36_0, hfz36_1, hfz36_2, hfz36_3, hfz36_4, hfz36_5, hfz36_6, hfz36_7, hfz36_8, hfz36_9, hfz36_10⟩ := cz11_ BK495.out; obtain ⟨Ao37, co37, eo37⟩ := Kd.R_slice HO472.out; subst eo37; obtain ⟨Ao38, co38, eo38⟩ := Kd.R_slice HO475.out; subst eo38; obtain ⟨Ao39, co39, eo39⟩ := Kd.R_slice HO478.out; subst eo39; obtain ⟨Ao40, co40, eo40⟩ := Kd.S_slice HO481.out; subst eo40; obtain ⟨Ao41, co41, eo41⟩ := Kd.R_slice HO484.out; subst eo41; obtain ⟨Ao42, co42, eo42⟩ := Kd.R_slice HO487.out; subst eo42; obtain ⟨Ao43, co43, eo43⟩ := Kd.S_slice HO490.out; subst eo43; obtain ⟨Ao44, co44, eo44⟩ := Kd.S_slice HO493.out; subst eo44) | ((with_reducible refine gate_callee (f := 25) rfl ?_); refine gm_ (some 30) Try.func25 #[.agg #[.int .i64 t468, .int .i64 t469, .slice Ao37 t470.length co37, .slice Ao38 t473.length co38, .slice Ao39 t476.length co39, .slice Ao40 t479.length co40, .slice Ao41 t482.length co41, .slice Ao42 t485.length co42, .slice Ao43 t488.length co43, .slice Ao44 t491.length co44, .int .i64 t494], .int .i64 a1, .int .i64 a2, .int .i64 a3] rfl ?_; (with_reducible refine (impl_HasRoom.calls k t468 t469 _ _ t470 _ _ t473 _ _ t476 _ _ t479 _ _ t482 _ _ t485 _ _ t488 _ _ t491 t494 a1 a2 a3 t496 _ ?side1 ?side2 ?side3 ?side4 ?side5 ?side6 ?side7 ?side8 ?side9 ?side10 ?side11 ?side12 ?side13 ?side14 ?side15 ?side16 A13.out).mono ?_); (case side1 => refine (Kd.R_reads' (e := 3) (base := w.heap.size) (ok := fun k_ => ((((((some k_ ≠ (.slice Ao38 t473.length co38 : Value).ownBlock ∧ (some k_ ≠ (.slice Ao39 t476.length co39 : Value).ownBlock ∧ (some k_ ≠ (.slice Ao41 t482.length co41 : Value).ownBlock ∧ some k_ ≠ (.slice Ao42 t485.length co42 : Value).ownBlock))) ∧ some k_ ≠ (.slice Ao23 t442.length co23 : Value).ownBlock) ∧ some k_ ≠ (.slice Ao24 t445.length co24 : Value).ownBlock) ∧ some k_ ≠ (.slice Ao25 t448.length co25 : Value).ownBlock) ∧ some k_ ≠ (.slice Ao27 t454.length co27 : Value).ownBlock) ∧ some k_ ≠ (.slice Ao28 t457.length co28 : Value).ownBlock)) (n := t470.length) (c := co37) ?_).2.2; exact (rm_ (Kd.R_types HO472.out BK495.out (by decide)) (fun _ h_ => h_.1))); (case side2 => exact (Kd.R_reads' HO472.out).2.1); (case side3 => refine (Kd.R_reads' (e := 3) (base := w.heap.size) (ok := fun k_ => ((((((some k_ ≠ (.slice Ao37 t470.length co37 : Value).ownBlock ∧ (some k_ ≠ (.slice Ao39 t476.length co39 : Value).ownBlock ∧ (some k_ ≠ (.slice Ao41 t482.length co41 : Value).ownBlock ∧ some k_ ≠ (.slice Ao42 t485.length co42 : Value).ownBlock))) ∧ some k_ ≠ (.slice Ao23 t442.length co23 : Value).ownBlock) ∧ some k_ ≠ (.slice Ao24 t445.length co24 : Value).ownBlock) ∧ some k_ ≠ (.slice Ao25 t448.length co25 : Value).ownBlock) ∧ some k_ ≠ (.slice Ao27 t454.length co27 : Value).ownBlock) ∧ some k_ ≠ (.slice Ao28 t457.length co28 : Value).ownBlock)) (n := t473.length) (c := co38) ?_).2.2; exact (rm_ (Kd.R_types HO475.out BK495.out (by decide)) (fun _ h_ => h_.1))); (case side4 => exact (Kd.R_reads' HO475.out).2.1); (case side5 => refine (Kd.R_reads' (e := 3) (base := w.heap.size) (ok := fun k_ => ((((((some k_ ≠ (.slice Ao37 t470.length co37 : Value).ownBlock ∧ (some k_ ≠ (.slice Ao38 t473.length co38 : Value).ownBlock ∧ (some k_ ≠ (.slice Ao41 t482.length co41 : Value).ownBlock ∧ some k_ ≠ (.slice Ao42 t485.length co42 : Value).ownBlock))) ∧ some k_ ≠ (.slice Ao23 t442.length co23 : Value).ownBlock) ∧ some k_ ≠ (.slice Ao24 t445.length co24 : Value).ownBlock) ∧ some k_ ≠ (.slice Ao25 t448.length co25 : Value).ownBlock) ∧ some k_ ≠ (.slice Ao27 t454.length co27 : Value).ownBlock) ∧ some k_ ≠ (.slice Ao28 t457.length co28 : Value).ownBlock)) (n := t476.length) (c := co39) ?_).2.2; exact (rm_ (Kd.R_types HO478.out BK495.out (by decide)) (fun _ h_ => h_.1))); (case side6 => exact (Kd.R_reads' HO478.out).2.1); (case side7 => refine (Kd.S_reads' (e := 62) (base := w.heap.size) (ok := fun k_ => ((((some k_ ≠ (.slice Ao43 t488.length co43 : Value).ownBlock ∧ some k_ ≠ (.slice Ao44 t491.length co44 : Value).ownBlock) ∧ some k_ ≠ (.slice Ao26 t451.length co26 : Value).ownBlock) ∧ some k_ ≠ (.slice Ao29 t460.length co29 : Value).ownBlock) ∧ some k_ ≠ (.slice Ao30 t463.length co30 : Value).ownBlock)) (n := t479.length) (c := co40) ?_).2.2; exact (sm_ (Kd.S_types HO481.out BK495.out (by decide)) (fun _ h_ => h_.1))); (case side8 => exact (Kd.S_reads' HO481.out).2.1); (case side9 => refine (Kd.R_reads' (e := 3) (base := w.heap.size) (ok := fun k_ => ((((((some k_ ≠ (.slice Ao37 t470.length co37 : Value).ownBlock ∧ (some k_ ≠ (.slice Ao38 t473.length co38 : Value).ownBlock ∧ (some k_ ≠ (.slice Ao39 t476.length co39 : Value).ownBlock ∧ some k_ ≠ (.slice Ao42 t485.length co42 : Value).ownBlock))) ∧ some k_ ≠ (.slice Ao23 t442.length co23 : Value).ownBlock) ∧ some k_ ≠ (.slice Ao24 t445.length co24 : Value).ownBlock) ∧ some k_ ≠ (.slice Ao25 t448.length co25 : Value).ownBlock) ∧ some k_ ≠ (.slice Ao27 t454.length co27 : Value).ownBlock) ∧ some k_ ≠ (.slice Ao28 t457.length co28 : Value).ownBlock)) (n := t482.length) (c := co41) ?_).2.2; exact (rm_ (Kd.R_types HO484.out BK495.out (by decide)) (fun _ h_ => h_.1))); (case side10 => exact (Kd.R_reads' HO484.out).2.1); (case side11 => refine (Kd.R_reads' (e := 3) (base := w.heap.size) (ok := fun k_ => ((((((some k_ ≠ (.slice Ao37 t470.length co37 : Value).ownBlock ∧ (some k_ ≠ (.slice Ao38 t473.length co38 : Value).ownBlock ∧ (some k_ ≠ (.slice Ao39 t476.length co39 : Value).ownBlock ∧ some k_ ≠ (.slice Ao41 t482.length co41 : Value).ownBlock))) ∧ some k_ ≠ (.slice Ao23 t442.length co23 : Value).ownBlock) ∧ some k_ ≠ (.slice Ao24 t445.length co24 : Value).ownBlock) ∧ some k_ ≠ (.slice Ao25 t448.length co25 : Value).ownBlock) ∧ some k_ ≠ (.slice Ao27 t454.length co27 : Value).ownBlock) ∧ some k_ ≠ (.slice Ao28 t457.length co28 : Value).ownBlock)) (n := t485.length) (c := co42) ?_).2.2; exact (rm_ (Kd.R_types HO487.out BK495.out (by decide)) (fun _ h_ => h_.1))); (case side12 => exact (Kd.R_reads' HO487.out).2.1); (case side13 => refine (Kd.S_reads' (e := 62) (base := w.heap.size) (ok := fun k_ => ((((some k_ ≠ (.slice Ao40 t479.length co40 : Value).ownBlock ∧ some k_ ≠ (.slice Ao44 t491.length co44 : Value).ownBlock) ∧ some k_ ≠ (.slice Ao26 t451.length co26 : Value).ownBlock) ∧ some k_ ≠ (.slice Ao29 t460.length co29 : Value).ownBlock) ∧ some k_ ≠ (.slice Ao30 t463.length co30 : Value).ownBlock)) (n := t488.length) (c := co43) ?_).2.2; exact (sm_ (Kd.S_types HO490.out BK495.out (by decide)) (fun _ h_ => h_.1))); (case side14 => exact (Kd.S_reads' HO490.out).2.1); (case side15 => refine (Kd.S_reads' (e := 62) (base := w.heap.size) (ok := fun k_ => ((((some k_ ≠ (.slice Ao40 t479.length co40 : Value).ownBlock ∧ some k_ ≠ (.slice Ao43 t488.length co43 : Value).ownBlock) ∧ some k_ ≠ (.slice Ao26 t451.length co26 : Value).ownBlock) ∧ some k_ ≠ (.slice Ao29 t460.length co29 : Value).ownBlock) ∧ some k_ ≠ (.slice Ao30 t463.length co30 : Value).ownBlock)) (n := t491.length) (c := co44) ?_).2.2; exact (sm_ (Kd.S_types HO493.out BK495.out (by decide)) (fun _ h_ => h_.1))); (case side16 => exact (Kd.S_reads' HO493.out).2.1); rintro e w45 ⟨rfl, hb⟩; refine ⟨_, rfl, ?_⟩; replace HO444 := Aside0.mk (Kd.R_below (rm_ (Kd.R_types HO444.out BK495.out (by decide)) (fun _ h_ => h_.1)) hb); replace HO447 := Aside0.mk (Kd.R_below (rm_ (Kd.R_types HO447.out BK495.out (by decide)) (fun _ h_ => h_.1)) hb); replace HO450 := Aside0.mk (Kd.R_below (rm_ (Kd.R_types HO450.out BK495.out (by decide)) (fun _ h_ => h_.1)) hb); replace HO453 := Aside0.mk (Kd.S_below (sm_ (Kd.S_types HO453.out BK495.out (by decide)) (fun _ h_ => h_.1)) hb); replace HO456 := Aside0.mk (Kd.R_below (rm_ (Kd.R_types HO456.out BK495.out (by decide)) (fun _ h_ => h_.1)) hb); replace HO459 := Aside0.mk (Kd.R_below (rm_ (Kd.R_types HO459.out BK495.out (by decide)) (fun _ h_ => h_.1)) hb); replace HO462 := Aside0.mk (Kd.S_below (sm_ (Kd.S_types HO462.out BK495.out (by decide)) (fun _ h_ => h_.1)) hb); replace HO465 := Aside0.mk (Kd.S_below (sm_ (Kd.S_types HO465.out BK495.out (by decide)) (fun _ h_ => h_.1)) hb); replace HO472 := Aside0.mk (Kd.R_below (rm_ (Kd.R_types HO472.out BK495.out (by decide)) (fun _ h_ => h_.1)) hb); replace HO475 := Aside0.mk (Kd.R_below (rm_ (Kd.R_types HO475.out BK495.out (by decide)) (fun _ h_ => h_.1)) hb); replace HO478 := Aside0.mk (Kd.R_below (rm_ (Kd.R_types HO478.out BK495.out (by decide)) (fun _ h_ => h_.1)) hb); replace HO481 := Aside0.mk (Kd.S_below (sm_ (Kd.S_types HO481.out BK495.out (by decide)) (fun _ h_ => h_.1)) hb); replace HO484 := Aside0.mk (Kd.R_below (rm_ (Kd.R_types HO484.out BK495.out (by decide)) (fun _ h_ => h_.1)) hb); replace HO487 := Aside0.mk (Kd.R_below (rm_ (Kd.R_types HO487.out BK495.out (by decide)) (fun _ h_ => h_.1)) hb); replace HO490 := Aside0.mk (Kd.S_below (sm_ (Kd.S_types HO490.out BK495.out (by decide)) (fun _ h_ => h_.1)) hb); replace HO493 := Aside0.mk (Kd.S_below (sm_ (Kd.S_types HO493.out BK495.out (by decide)) (fun _ h_ => h_.1)) hb); replace BK438 := Aside0.mk (blk_below (bf_ BK438.out) hb); replace BK495 := Aside0.mk (blk_below (g := gb495) (o := .cells #[.int .i64 t468, .int .i64 t469, .slice Ao37 t470.length co37, .slice Ao38 t473.length co38, .slice Ao39 t476.length co39, .slice Ao40 t479.length co40, .slice Ao41 t482.length co41, .slice Ao42 t485.length co42, .slice Ao43 t488.length co43, .slice Ao44 t491.length co44, .int .i64 t494] 44 (0, 0)) (by (with_reducible repeat (first | refine blk_drewN ?_ _ | refine blk_drew ?_ | refine blk_alloc ?_ _)); refine blk_put (cs := #[.int .i64 t468, .int .i64 t469, .slice Ao37 t470.length co37, .slice Ao38 t473.length co38, .slice Ao39 t476.length co39, .slice Ao40 t479.length co40, .slice Ao41 t482.length co41, .slice Ao42 t485.length co42, .slice Ao43 t488.length co43, .slice Ao44 t491.length co44, .int .i64 0]) ?_ 10 _ rfl; (with_reducible repeat (first | refine blk_drewN ?_ _ | refine blk_drew ?_ | refine blk_alloc ?_ _)); refine blk_put (cs := #[.int .i64 t468, .int .i64 t469, .slice Ao37 t470.length co37, .slice Ao38 t473.length co38, .slice Ao39 t476.length co39, .slice Ao40 t479.length co40, .slice Ao41 t482.length co41, .slice Ao42 t485.length co42, .slice Ao43 t488.length co43, .slice none 0 0, .int .i64 0]) ?_ 9 _ rfl; (with_reducible repeat (first | refine blk_drewN ?_ _ | refine blk_drew ?_ | refine blk_alloc ?_ _)); refine blk_put (cs := #[.int .i64 t468, .int .i64 t469, .slice Ao37 t470.length co37, .slice Ao38 t473.length co38, .slice Ao39 t476.length co39, .slice Ao40 t479.length co40, .slice Ao41 t482.length co41, .slice Ao42 t485.length co42, .slice none 0 0, .slice none 0 0, .int .i64 0]) ?_ 8 _ rfl; (with_reducible repeat (first | refine blk_drewN ?_ _ | refine blk_drew ?_ | refine blk_alloc ?_ _)); refine blk_put (cs := #[.int .i64 t468, .int .i64 t469, .slice Ao37 t470.length co37, .slice Ao38 t473.length co38, .slice Ao39 t476.length co39, .slice Ao40 t479.length co40, .slice Ao41 t482.length co41, .slice none 0 0, .slice none 0 0, .slice none 0 0, .int .i64 0]) ?_ 7 _ rfl; (with_reducible repeat (first | refine blk_drewN ?_ _ | refine blk_drew ?_ | refine blk_alloc ?_ _)); refine blk_put (cs := #[.int .i64 t468, .int .i64 t469, .slice Ao37 t470.length co37, .slice Ao38 t473.length co38, .slice Ao39 t476.length co39, .slice Ao40 t479.length co40, .slice none 0 0, .slice none 0 0, .slice none 0 0, .slice none 0 0, .int .i64 0]) ?_ 6 _ rfl; (with_reducible repeat (first | refine blk_drewN ?_ _ | refine blk_drew ?_ | refine blk_alloc ?_ _)); refine blk_put (cs := #[.int .i64 t468, .int .i64 t469, .slice Ao37 t470.length co37, .slice Ao38 t473.length co38, .slice Ao39 t476.length co39, .slice none 0 0, .slice none 0 0, .slice none 0 0, .slice none 0 0, .slice none 0 0, .int .i64 0]) ?_ 5 _ rfl; (with_reducible repeat (first | refine blk_drewN ?_ _ | refine blk_drew ?_ | refine blk_alloc ?_ _)); refine blk_put (cs := #[.int .i64 t468, .int .i64 t469, .slice Ao37 t470.length co37, .slice Ao38 t473.length co38, .slice none 0 0, .slice none 0 0, .slice none 0 0, .slice none 0 0, .slice none 0 0, .slice none 0 0, .int .i64 0]) ?_ 4 _ rfl; (with_reducible repeat (first | refine blk_drewN ?_ _ | refine blk_drew ?_ | refine blk_alloc ?_ _)); refine blk_put (cs := #[.int .i64 t468, .int .i64 t469, .slice Ao37 t470.length co37, .slice none 0 0, .slice none 0 0, .slice none 0 0, .slice none 0 0, .slice none 0 0, .slice none 0 0, .slice none 0 0, .int .i64 0]) ?_ 3 _ rfl; (with_reducible repeat (first | refine blk_drewN ?_ _ | refine blk_drew ?_ | refine blk_alloc ?_ _)); refine blk_put (cs := #[.int .i64 t468, .int .i64 t469, .slice none 0 0, .slice none 0 0, .slice none 0 0, .slice none 0 0, .slice none 0 0, .slice none 0 0, .slice none 0 0, .slice none 0 0, .int .i64 0]) ?_ 2 _ rfl; (with_reducible repeat (first | refine blk_drewN ?_ _ | refine blk_drew ?_ | refine blk_alloc ?_ _)); refine blk_put (cs := #[.int .i64 t468, .int .i64 0, .slice none 0 0, .slice none 0 0, .slice none 0 0, .slice none 0 0, .slice none 0 0, .slice none 0 0, .slice none 0 0, .slice none 0 0, .int .i64 0]) ?_ 1 _ rfl; (with_reducible repeat (first | refine blk_drewN ?_ _ | refine blk_drew ?_ | refine blk_alloc ?_ _)); refine blk_put (cs := #[.int .i64 0, .int .i64 0, .slice none 0 0, .slice none 0 0, .slice none 0 0, .slice none 0 0, .slice none 0 0, .slice none 0 0, .slice none 0 0, .slice none 0 0, .int .i64 0]) ?_ 0 _ rfl; (with_reducible repeat (first | refine blk_drewN ?_ _ | refine blk_drew ?_ | refine blk_alloc ?_ _)); exact BK495.out) hb); replace HB := Aside0.mk (bs_ HB.out hb); (try clear hb)))
    have n0_ := Aside0.mk (Kd.R_drew HO444.out)
    have n1_ := Aside0.mk (Kd.R_drew HO447.out)
    have n2_ := Aside0.mk (Kd.R_drew HO450.out)
    have n3_ := Aside0.mk (Kd.S_drew HO453.out)
    have n4_ := Aside0.mk (Kd.R_drew HO456.out)
    have n5_ := Aside0.mk (Kd.R_drew HO459.out)
    have n6_ := Aside0.mk (Kd.S_drew HO462.out)
    have n7_ := Aside0.mk (Kd.S_drew HO465.out)
    have n8_ := Aside0.mk (Kd.R_drew HO472.out)
    have n9_ := Aside0.mk (Kd.R_drew HO475.out)
    have n10_ := Aside0.mk (Kd.R_drew HO478.out)
    have n11_ := Aside0.mk (Kd.S_drew HO481.out)
    have n12_ := Aside0.mk (Kd.R_drew HO484.out)
    have n13_ := Aside0.mk (Kd.R_drew HO487.out)
    have n14_ := Aside0.mk (Kd.S_drew HO490.out)
    have n15_ := Aside0.mk (Kd.S_drew HO493.out)
    have n16_ := Aside0.mk (blk_drew BK438.out)
    have n17_ := Aside0.mk (blk_drew BK495.out)
    have n18_ := Aside0.mk (below_drew1 HB.out)
    clear HO444
    clear HO447
    clear HO450
    clear HO453
    clear HO456
    clear HO459
    clear HO462
    clear HO465
    clear HO472
    clear HO475
    clear HO478
    clear HO481
    clear HO484
    clear HO487
    clear HO490
    clear HO493
    clear BK438
    clear BK495
    clear HB
    have HO444 := n0_
    have HO447 := n1_
    have HO450 := n2_
    have HO453 := n3_
    have HO456 := n4_
    have HO459 := n5_
    have HO462 := n6_
    have HO465 := n7_
    have HO472 := n8_
    have HO475 := n9_
    have HO478 := n10_
    have HO481 := n11_
    have HO484 := n12_
    have HO487 := n13_
    have HO490 := n14_
    have HO493 := n15_
    have BK438 := n16_
    have BK495 := n17_
    have HB := n18_
    clear n0_ n1_ n2_ n3_ n4_ n5_ n6_ n7_ n8_ n9_ n10_ n11_ n12_ n13_ n14_ n15_ n16_ n17_ n18_
    refine start_ (n := 5) (S := fun w' => w'.cell? ⟨gb495, 0, none⟩ = some (.int .i64 t468) ∧ w'.cell? ⟨gb495, 1, none⟩ = some (.int .i64 t469) ∧ w'.cell? ⟨gb495, 2, none⟩ = some (.slice Ao37 t470.length co37) ∧ w'.cell? ⟨gb495, 3, none⟩ = some (.slice Ao38 t473.length co38) ∧ w'.cell? ⟨gb495, 4, none⟩ = some (.slice Ao39 t476.length co39) ∧ w'.cell? ⟨gb495, 5, none⟩ = some (.slice Ao40 t479.length co40) ∧ w'.cell? ⟨gb495, 6, none⟩ = some (.slice Ao41 t482.length co41) ∧ w'.cell? ⟨gb495, 7, none⟩ = some (.slice Ao42 t485.length co42) ∧ w'.cell? ⟨gb495, 8, none⟩ = some (.slice Ao43 t488.length co43) ∧ w'.cell? ⟨gb495, 9, none⟩ = some (.slice Ao44 t491.length co44) ∧ w'.cell? ⟨gb495, 10, none⟩ = some (.int .i64 t494) ∧ w'.cell? ⟨gb438, 0, none⟩ = some (.int .i64 a0_0) ∧ w'.cell? ⟨gb438, 1, none⟩ = some (.int .i64 a0_1) ∧ w'.cell? ⟨gb438, 2, none⟩ = some (.slice A0_2 l0_2.length c0_2) ∧ w'.cell? ⟨gb438, 3, none⟩ = some (.slice A0_3 l0_3.length c0_3) ∧ w'.cell? ⟨gb438, 4, none⟩ = some (.slice A0_4 l0_4.length c0_4) ∧ w'.cell? ⟨gb438, 5, none⟩ = some (.slice A0_5 l0_5.length c0_5) ∧ w'.cell? ⟨gb438, 6, none⟩ = some (.slice A0_6 l0_6.length c0_6) ∧ w'.cell? ⟨gb438, 7, none⟩ = some (.slice A0_7 l0_7.length c0_7) ∧ w'.cell? ⟨gb438, 8, none⟩ = some (.slice A0_8 l0_8.length c0_8) ∧ w'.cell? ⟨gb438, 9, none⟩ = some (.slice A0_9 l0_9.length c0_9) ∧ w'.cell? ⟨gb438, 10, none⟩ = some (.int .i64 a0_10)) (ds := []) #[false, false, false, false, false] (by kernel_rfl) rfl rfl ⟨(blk_cell BK495.out 0).trans rfl, (blk_cell BK495.out 1).trans rfl, (blk_cell BK495.out 2).trans rfl, (blk_cell BK495.out 3).trans rfl, (blk_cell BK495.out 4).trans rfl, (blk_cell BK495.out 5).trans rfl, (blk_cell BK495.out 6).trans rfl, (blk_cell BK495.out 7).trans rfl, (blk_cell BK495.out 8).trans rfl, (blk_cell BK495.out 9).trans rfl, (blk_cell BK495.out 10).trans rfl, (blk_cell BK438.out 0).trans rfl, (blk_cell BK438.out 1).trans rfl, (blk_cell BK438.out 2).trans rfl, (blk_cell BK438.out 3).trans rfl, (blk_cell BK438.out 4).trans rfl, (blk_cell BK438.out 5).trans rfl, (blk_cell BK438.out 6).trans rfl, (blk_cell BK438.out 7).trans rfl, (blk_cell BK438.out 8).trans rfl, (blk_cell BK438.out 9).trans rfl, (blk_cell BK438.out 10).trans rfl⟩ (fun hHeld => ?_)
    generalize w45.drew = w46 at HO444 HO447 HO450 HO453 HO456 HO459 HO462 HO465 HO472 HO475 HO478 HO481 HO484 HO487 HO490 HO493 BK438 BK495 HB hHeld ⊢
    refine take_ (i := 0) (N := some 34) (v := ?_) (a' := ?_) (bt_ 5 1) rfl rfl (by kernel_rfl) (fun _ _ _ h => h) (Or.inl ⟨by rfl, ?_⟩) hHeld ?_ ?_
    rotate_left
    ·rintro w' ⟨s0, s1, s2, s3, s4, s5, s6, s7, s8, s9, s10, s11, s12, s13, s14, s15, s16, s17, s18, s19, s20, s21⟩
     go_simp
     with_reducible rfl
    rotate_left
    ·simp only [Act.put, List.setIfInBounds_toArray, List.set_cons_zero, List.set_cons_succ, i64_w, i32_w]
     rfl
    refine take_ (i := 1) (N := some 35) (v := ?_) (a' := ?_) (bt_ 5 3) rfl rfl (by kernel_rfl) (fun _ _ _ h => h) (Or.inl ⟨by rfl, ?_⟩) hHeld ?_ ?_
    rotate_left
    ·rintro w' ⟨s0, s1, s2, s3, s4, s5, s6, s7, s8, s9, s10, s11, s12, s13, s14, s15, s16, s17, s18, s19, s20, s21⟩
     go_simp
     with_reducible rfl
    rotate_left
    ·simp only [Act.put, List.setIfInBounds_toArray, List.set_cons_zero, List.set_cons_succ, i64_w, i32_w]
     rfl
    refine one_ (i := 2) (N := some 36) (bt_ 5 7) rfl rfl (by kernel_rfl) (by decide) (fun K hK => ?_)
    refine goes_ Try.func17 (by kernel_rfl) rfl #[.agg #[.int .i64 a0_0, .int .i64 a0_1, .slice A0_2 l0_2.length c0_2, .slice A0_3 l0_3.length c0_3, .slice A0_4 l0_4.length c0_4, .slice A0_5 l0_5.length c0_5, .slice A0_6 l0_6.length c0_6, .slice A0_7 l0_7.length c0_7, .slice A0_8 l0_8.length c0_8, .slice A0_9 l0_9.length c0_9, .int .i64 a0_10]] (by rfl) rfl rfl (by (try simp only [List.map_toArray, List.map_cons, List.map_nil]); first | done | rfl | (simp only [List.length_drop, List.length_take]; rfl)) ?_
    with_reducible refine (laws_toNet.calls k a0_0 a0_1 _ _ l0_2 _ _ l0_3 _ _ l0_4 _ _ l0_5 _ _ l0_6 _ _ l0_7 _ _ l0_8 _ _ l0_9 a0_10 t497 t498 t499 t502 t505 t508 t511 t514 t517 t520 t523 _ ?side1 ?side2 ?side3 ?side4 ?side5 ?side6 ?side7 ?side8 ?side9 ?side10 ?side11 ?side12 ?side13 ?side14 ?side15 ?side16 A15.out).mono ?_
    (case side1 => exact cb_ HR0_2.out HB.out)
    (case side2 => exact HC0_2.out)
    (case side3 => exact cb_ HR0_3.out HB.out)
    (case side4 => exact HC0_3.out)
    (case side5 => exact cb_ HR0_4.out HB.out)
    (case side6 => exact HC0_4.out)
    (case side7 => exact cb_ HR0_5.out HB.out)
    (case side8 => exact HC0_5.out)
    (case side9 => exact cb_ HR0_6.out HB.out)
    (case side10 => exact HC0_6.out)
    (case side11 => exact cb_ HR0_7.out HB.out)
    (case side12 => exact HC0_7.out)
    (case side13 => exact cb_ HR0_8.out HB.out)
    (case side14 => exact HC0_8.out)
    (case side15 => exact cb_ HR0_9.out HB.out)
    (case side16 => exact HC0_9.out)
    rintro e w47 ⟨v500, v503, v506, v509, v512, v515, v518, v521, rfl, ho0, ho1, ho2, ho3, ho4, ho5, ho6, ho7, hb⟩
    refine ⟨_, rfl, ?_⟩
    have n0_ := Aside0.mk (Kd.R_mono (Kd.R_told (Kd.R_told (Kd.R_told (Kd.R_told (Kd.R_told (Kd.R_old (ra_ HO444.out) hb) (Kd.R_base ho0)) (Kd.R_base ho1)) (Kd.R_base ho2)) (Kd.R_base ho4)) (Kd.R_base ho5)) (fun _ h_ => h_.1))
    have n1_ := Aside0.mk (Kd.R_mono (Kd.R_told (Kd.R_told (Kd.R_told (Kd.R_told (Kd.R_told (Kd.R_old (ra_ HO447.out) hb) (Kd.R_base ho0)) (Kd.R_base ho1)) (Kd.R_base ho2)) (Kd.R_base ho4)) (Kd.R_base ho5)) (fun _ h_ => h_.1))
    have n2_ := Aside0.mk (Kd.R_mono (Kd.R_told (Kd.R_told (Kd.R_told (Kd.R_told (Kd.R_told (Kd.R_old (ra_ HO450.out) hb) (Kd.R_base ho0)) (Kd.R_base ho1)) (Kd.R_base ho2)) (Kd.R_base ho4)) (Kd.R_base ho5)) (fun _ h_ => h_.1))
    have n3_ := Aside0.mk (Kd.S_mono (Kd.S_told (Kd.S_told (Kd.S_told (Kd.S_old (sa_ HO453.out) hb) (Kd.S_base ho3)) (Kd.S_base ho6)) (Kd.S_base ho7)) (fun _ h_ => h_.1))
    have n4_ := Aside0.mk (Kd.R_mono (Kd.R_told (Kd.R_told (Kd.R_told (Kd.R_told (Kd.R_told (Kd.R_old (ra_ HO456.out) hb) (Kd.R_base ho0)) (Kd.R_base ho1)) (Kd.R_base ho2)) (Kd.R_base ho4)) (Kd.R_base ho5)) (fun _ h_ => h_.1))
    have n5_ := Aside0.mk (Kd.R_mono (Kd.R_told (Kd.R_told (Kd.R_told (Kd.R_told (Kd.R_told (Kd.R_old (ra_ HO459.out) hb) (Kd.R_base ho0)) (Kd.R_base ho1)) (Kd.R_base ho2)) (Kd.R_base ho4)) (Kd.R_base ho5)) (fun _ h_ => h_.1))
    have n6_ := Aside0.mk (Kd.S_mono (Kd.S_told (Kd.S_told (Kd.S_told (Kd.S_old (sa_ HO462.out) hb) (Kd.S_base ho3)) (Kd.S_base ho6)) (Kd.S_base ho7)) (fun _ h_ => h_.1))
    have n7_ := Aside0.mk (Kd.S_mono (Kd.S_told (Kd.S_told (Kd.S_told (Kd.S_old (sa_ HO465.out) hb) (Kd.S_base ho3)) (Kd.S_base ho6)) (Kd.S_base ho7)) (fun _ h_ => h_.1))
    have n8_ := Aside0.mk (Kd.R_mono (Kd.R_told (Kd.R_told (Kd.R_told (Kd.R_told (Kd.R_told (Kd.R_old (ra_ HO472.out) hb) (Kd.R_base ho0)) (Kd.R_base ho1)) (Kd.R_base ho2)) (Kd.R_base ho4)) (Kd.R_base ho5)) (fun _ h_ => h_.1))
    have n9_ := Aside0.mk (Kd.R_mono (Kd.R_told (Kd.R_told (Kd.R_told (Kd.R_told (Kd.R_told (Kd.R_old (ra_ HO475.out) hb) (Kd.R_base ho0)) (Kd.R_base ho1)) (Kd.R_base ho2)) (Kd.R_base ho4)) (Kd.R_base ho5)) (fun _ h_ => h_.1))
    have n10_ := Aside0.mk (Kd.R_mono (Kd.R_told (Kd.R_told (Kd.R_told (Kd.R_told (Kd.R_told (Kd.R_old (ra_ HO478.out) hb) (Kd.R_base ho0)) (Kd.R_base ho1)) (Kd.R_base ho2)) (Kd.R_base ho4)) (Kd.R_base ho5)) (fun _ h_ => h_.1))
    have n11_ := Aside0.mk (Kd.S_mono (Kd.S_told (Kd.S_told (Kd.S_told (Kd.S_old (sa_ HO481.out) hb) (Kd.S_base ho3)) (Kd.S_base ho6)) (Kd.S_base ho7)) (fun _ h_ => h_.1))
    have n12_ := Aside0.mk (Kd.R_mono (Kd.R_told (Kd.R_told (Kd.R_told (Kd.R_told (Kd.R_told (Kd.R_old (ra_ HO484.out) hb) (Kd.R_base ho0)) (Kd.R_base ho1)) (Kd.R_base ho2)) (Kd.R_base ho4)) (Kd.R_base ho5)) (fun _ h_ => h_.1))
    have n13_ := Aside0.mk (Kd.R_mono (Kd.R_told (Kd.R_told (Kd.R_told (Kd.R_told (Kd.R_told (Kd.R_old (ra_ HO487.out) hb) (Kd.R_base ho0)) (Kd.R_base ho1)) (Kd.R_base ho2)) (Kd.R_base ho4)) (Kd.R_base ho5)) (fun _ h_ => h_.1))
    have n14_ := Aside0.mk (Kd.S_mono (Kd.S_told (Kd.S_told (Kd.S_told (Kd.S_old (sa_ HO490.out) hb) (Kd.S_base ho3)) (Kd.S_base ho6)) (Kd.S_base ho7)) (fun _ h_ => h_.1))
    have n15_ := Aside0.mk (Kd.S_mono (Kd.S_told (Kd.S_told (Kd.S_told (Kd.S_old (sa_ HO493.out) hb) (Kd.S_base ho3)) (Kd.S_base ho6)) (Kd.S_base ho7)) (fun _ h_ => h_.1))
    have n16_ := Aside0.mk (Kd.R_lower (Kd.R_new' (Kd.R_new' (Kd.R_new' (Kd.R_new' (Kd.R_new' (Kd.R_new' (Kd.R_new' (Kd.R_new' (Kd.R_new' (Kd.R_new' ho0 (rl_ HO444.out)) (rl_ HO447.out)) (rl_ HO450.out)) (rl_ HO456.out)) (rl_ HO459.out)) (rl_ HO472.out)) (rl_ HO475.out)) (rl_ HO478.out)) (rl_ HO484.out)) (rl_ HO487.out)) (bz_ HB.out))
    have n17_ := Aside0.mk (Kd.R_lower (Kd.R_new' (Kd.R_new' (Kd.R_new' (Kd.R_new' (Kd.R_new' (Kd.R_new' (Kd.R_new' (Kd.R_new' (Kd.R_new' (Kd.R_new' ho1 (rl_ HO444.out)) (rl_ HO447.out)) (rl_ HO450.out)) (rl_ HO456.out)) (rl_ HO459.out)) (rl_ HO472.out)) (rl_ HO475.out)) (rl_ HO478.out)) (rl_ HO484.out)) (rl_ HO487.out)) (bz_ HB.out))
    have n18_ := Aside0.mk (Kd.R_lower (Kd.R_new' (Kd.R_new' (Kd.R_new' (Kd.R_new' (Kd.R_new' (Kd.R_new' (Kd.R_new' (Kd.R_new' (Kd.R_new' (Kd.R_new' ho2 (rl_ HO444.out)) (rl_ HO447.out)) (rl_ HO450.out)) (rl_ HO456.out)) (rl_ HO459.out)) (rl_ HO472.out)) (rl_ HO475.out)) (rl_ HO478.out)) (rl_ HO484.out)) (rl_ HO487.out)) (bz_ HB.out))
    have n19_ := Aside0.mk (Kd.S_lower (Kd.S_new' (Kd.S_new' (Kd.S_new' (Kd.S_new' (Kd.S_new' (Kd.S_new' ho3 (sl_ HO453.out)) (sl_ HO462.out)) (sl_ HO465.out)) (sl_ HO481.out)) (sl_ HO490.out)) (sl_ HO493.out)) (bz_ HB.out))
    have n20_ := Aside0.mk (Kd.R_lower (Kd.R_new' (Kd.R_new' (Kd.R_new' (Kd.R_new' (Kd.R_new' (Kd.R_new' (Kd.R_new' (Kd.R_new' (Kd.R_new' (Kd.R_new' ho4 (rl_ HO444.out)) (rl_ HO447.out)) (rl_ HO450.out)) (rl_ HO456.out)) (rl_ HO459.out)) (rl_ HO472.out)) (rl_ HO475.out)) (rl_ HO478.out)) (rl_ HO484.out)) (rl_ HO487.out)) (bz_ HB.out))
    have n21_ := Aside0.mk (Kd.R_lower (Kd.R_new' (Kd.R_new' (Kd.R_new' (Kd.R_new' (Kd.R_new' (Kd.R_new' (Kd.R_new' (Kd.R_new' (Kd.R_new' (Kd.R_new' ho5 (rl_ HO444.out)) (rl_ HO447.out)) (rl_ HO450.out)) (rl_ HO456.out)) (rl_ HO459.out)) (rl_ HO472.out)) (rl_ HO475.out)) (rl_ HO478.out)) (rl_ HO484.out)) (rl_ HO487.out)) (bz_ HB.out))
    have n22_ := Aside0.mk (Kd.S_lower (Kd.S_new' (Kd.S_new' (Kd.S_new' (Kd.S_new' (Kd.S_new' (Kd.S_new' ho6 (sl_ HO453.out)) (sl_ HO462.out)) (sl_ HO465.out)) (sl_ HO481.out)) (sl_ HO490.out)) (sl_ HO493.out)) (bz_ HB.out))
    have n23_ := Aside0.mk (Kd.S_lower (Kd.S_new' (Kd.S_new' (Kd.S_new' (Kd.S_new' (Kd.S_new' (Kd.S_new' ho7 (sl_ HO453.out)) (sl_ HO462.out)) (sl_ HO465.out)) (sl_ HO481.out)) (sl_ HO490.out)) (sl_ HO493.out)) (bz_ HB.out))
    have n24_ := Aside0.mk (bk_ BK438.out hb)
    have n25_ := Aside0.mk (bk_ BK495.out hb)
    have n26_ := Aside0.mk (bs_ HB.out hb)
    clear HO444
    clear HO447
    clear HO450
    clear HO453
    clear HO456
    clear HO459
    clear HO462
    clear HO465
    clear HO472
    clear HO475
    clear HO478
    clear HO481
    clear HO484
    clear HO487
    clear HO490
    clear HO493
    clear BK438
    clear BK495
    clear HB
    have HO444 := n0_
    have HO447 := n1_
    have HO450 := n2_
    have HO453 := n3_
    have HO456 := n4_
    have HO459 := n5_
    have HO462 := n6_
    have HO465 := n7_
    have HO472 := n8_
    have HO475 := n9_
    have HO478 := n10_
    have HO481 := n11_
    have HO484 := n12_
    have HO487 := n13_
    have HO490 := n14_
    have HO493 := n15_
    have HO501 := n16_
    have HO504 := n17_
    have HO507 := n18_
    have HO510 := n19_
    have HO513 := n20_
    have HO516 := n21_
    have HO519 := n22_
    have HO522 := n23_
    have BK438 := n24_
    have BK495 := n25_
    have HB := n26_
    clear n0_ n1_ n2_ n3_ n4_ n5_ n6_ n7_ n8_ n9_ n10_ n11_ n12_ n13_ n14_ n15_ n16_ n17_ n18_ n19_ n20_ n21_ n22_ n23_ n24_ n25_ n26_
    (try clear hb)
    (try clear hb2)
    (try clear hk)
    (try clear hi)
    (try clear ho0)
    (try clear ho1)
    (try clear ho2)
    (try clear ho3)
    (try clear ho4)
    (try clear ho5)
    (try clear ho6)
    (try clear ho7)
    obtain ⟨Ao48, co48, eo48⟩ := Kd.R_slice HO501.out
    (first | subst eo48 | (injection eo48 with f1_ f2_ f3_; have f4_ := f1_.symm; have f5_ := f3_.symm; clear f1_ f2_ f3_; subst f4_; subst f5_))
    obtain ⟨Ao49, co49, eo49⟩ := Kd.R_slice HO504.out
    (first | subst eo49 | (injection eo49 with f1_ f2_ f3_; have f4_ := f1_.symm; have f5_ := f3_.symm; clear f1_ f2_ f3_; subst f4_; subst f5_))
    obtain ⟨Ao50, co50, eo50⟩ := Kd.R_slice HO507.out
    (first | subst eo50 | (injection eo50 with f1_ f2_ f3_; have f4_ := f1_.symm; have f5_ := f3_.symm; clear f1_ f2_ f3_; subst f4_; subst f5_))
    obtain ⟨Ao51, co51, eo51⟩ := Kd.S_slice HO510.out
    (first | subst eo51 | (injection eo51 with f1_ f2_ f3_; have f4_ := f1_.symm; have f5_ := f3_.symm; clear f1_ f2_ f3_; subst f4_; subst f5_))
    obtain ⟨Ao52, co52, eo52⟩ := Kd.R_slice HO513.out
    (first | subst eo52 | (injection eo52 with f1_ f2_ f3_; have f4_ := f1_.symm; have f5_ := f3_.symm; clear f1_ f2_ f3_; subst f4_; subst f5_))
    obtain ⟨Ao53, co53, eo53⟩ := Kd.R_slice HO516.out
    (first | subst eo53 | (injection eo53 with f1_ f2_ f3_; have f4_ := f1_.symm; have f5_ := f3_.symm; clear f1_ f2_ f3_; subst f4_; subst f5_))
    obtain ⟨Ao54, co54, eo54⟩ := Kd.S_slice HO519.out
    (first | subst eo54 | (injection eo54 with f1_ f2_ f3_; have f4_ := f1_.symm; have f5_ := f3_.symm; clear f1_ f2_ f3_; subst f4_; subst f5_))
    obtain ⟨Ao55, co55, eo55⟩ := Kd.S_slice HO522.out
    (first | subst eo55 | (injection eo55 with f1_ f2_ f3_; have f4_ := f1_.symm; have f5_ := f3_.symm; clear f1_ f2_ f3_; subst f4_; subst f5_))
    refine hK.out _ _ ⟨(blk_cell BK495.out 0).trans rfl, (blk_cell BK495.out 1).trans rfl, (blk_cell BK495.out 2).trans rfl, (blk_cell BK495.out 3).trans rfl, (blk_cell BK495.out 4).trans rfl, (blk_cell BK495.out 5).trans rfl, (blk_cell BK495.out 6).trans rfl, (blk_cell BK495.out 7).trans rfl, (blk_cell BK495.out 8).trans rfl, (blk_cell BK495.out 9).trans rfl, (blk_cell BK495.out 10).trans rfl, (blk_cell BK438.out 0).trans rfl, (blk_cell BK438.out 1).trans rfl, (blk_cell BK438.out 2).trans rfl, (blk_cell BK438.out 3).trans rfl, (blk_cell BK438.out 4).trans rfl, (blk_cell BK438.out 5).trans rfl, (blk_cell BK438.out 6).trans rfl, (blk_cell BK438.out 7).trans rfl, (blk_cell BK438.out 8).trans rfl, (blk_cell BK438.out 9).trans rfl, (blk_cell BK438.out 10).trans rfl⟩ (fun hHeld => ?_)
    clear hK K
    refine norm_ (a' := ?_) ?_ ?_
    rotate_left
    ·show Act.put _ (some 36) _ = _
     simp only [Act.put, List.setIfInBounds_toArray, List.set_cons_zero, List.set_cons_succ, i64_w, i32_w]
     rfl
    refine one_ (i := 3) (N := some 37) (bt_ 5 15) rfl rfl (by kernel_rfl) (by decide) (fun K hK => ?_)
    refine goes_ Try.func19 (by kernel_rfl) rfl #[.agg #[.int .i64 t468, .int .i64 t469, .slice Ao37 t470.length co37, .slice Ao38 t473.length co38, .slice Ao39 t476.length co39, .slice Ao40 t479.length co40, .slice Ao41 t482.length co41, .slice Ao42 t485.length co42, .slice Ao43 t488.length co43, .slice Ao44 t491.length co44, .int .i64 t494], .agg #[.int .i64 t497, .int .i64 t498, .slice Ao48 t499.length co48, .slice Ao49 t502.length co49, .slice Ao50 t505.length co50, .slice Ao51 t508.length co51, .slice Ao52 t511.length co52, .slice Ao53 t514.length co53, .slice Ao54 t517.length co54, .slice Ao55 t520.length co55, .int .i64 t523]] (by rfl) rfl rfl (by (try simp only [List.map_toArray, List.map_cons, List.map_nil]); first | done | rfl | (simp only [List.length_drop, List.length_take]; rfl)) ?_
    with_reducible refine (laws_eqNet.calls k t468 t469 _ _ t470 _ _ t473 _ _ t476 _ _ t479 _ _ t482 _ _ t485 _ _ t488 _ _ t491 t494 t497 t498 _ _ t499 _ _ t502 _ _ t505 _ _ t508 _ _ t511 _ _ t514 _ _ t517 _ _ t520 t523 true _ ?side1 ?side2 ?side3 ?side4 ?side5 ?side6 ?side7 ?side8 ?side9 ?side10 ?side11 ?side12 ?side13 ?side14 ?side15 ?side16 ?side17 ?side18 ?side19 ?side20 ?side21 ?side22 ?side23 ?side24 ?side25 ?side26 ?side27 ?side28 ?side29 ?side30 ?side31 ?side32 A16.out).mono ?_
    (case side1 => repeat (first | exact (Kd.R_reads' HO472.out).2.2 | (with_reducible refine Kd.C_alloc ?_ _) | (with_reducible refine Kd.C_drewN ?_ _) | (with_reducible refine Kd.C_drew ?_)))
    (case side2 => exact (Kd.R_reads' HO472.out).2.1)
    (case side3 => repeat (first | exact (Kd.R_reads' HO475.out).2.2 | (with_reducible refine Kd.C_alloc ?_ _) | (with_reducible refine Kd.C_drewN ?_ _) | (with_reducible refine Kd.C_drew ?_)))
    (case side4 => exact (Kd.R_reads' HO475.out).2.1)
    (case side5 => repeat (first | exact (Kd.R_reads' HO478.out).2.2 | (with_reducible refine Kd.C_alloc ?_ _) | (with_reducible refine Kd.C_drewN ?_ _) | (with_reducible refine Kd.C_drew ?_)))
    (case side6 => exact (Kd.R_reads' HO478.out).2.1)
    (case side7 => repeat (first | exact (Kd.S_reads' HO481.out).2.2 | (with_reducible refine Kd.C_alloc ?_ _) | (with_reducible refine Kd.C_drewN ?_ _) | (with_reducible refine Kd.C_drew ?_)))
    (case side8 => exact (Kd.S_reads' HO481.out).2.1)
    (case side9 => repeat (first | exact (Kd.R_reads' HO484.out).2.2 | (with_reducible refine Kd.C_alloc ?_ _) | (with_reducible refine Kd.C_drewN ?_ _) | (with_reducible refine Kd.C_drew ?_)))
    (case side10 => exact (Kd.R_reads' HO484.out).2.1)
    (case side11 => repeat (first | exact (Kd.R_reads' HO487.out).2.2 | (with_reducible refine Kd.C_alloc ?_ _) | (with_reducible refine Kd.C_drewN ?_ _) | (with_reducible refine Kd.C_drew ?_)))
    (case side12 => exact (Kd.R_reads' HO487.out).2.1)
    (case side13 => repeat (first | exact (Kd.S_reads' HO490.out).2.2 | (with_reducible refine Kd.C_alloc ?_ _) | (with_reducible refine Kd.C_drewN ?_ _) | (with_reducible refine Kd.C_drew ?_)))
    (case side14 => exact (Kd.S_reads' HO490.out).2.1)
    (case side15 => repeat (first | exact (Kd.S_reads' HO493.out).2.2 | (with_reducible refine Kd.C_alloc ?_ _) | (with_reducible refine Kd.C_drewN ?_ _) | (with_reducible refine Kd.C_drew ?_)))
    (case side16 => exact (Kd.S_reads' HO493.out).2.1)
    (case side17 => repeat (first | exact (Kd.R_reads' HO501.out).2.2 | (with_reducible refine Kd.C_alloc ?_ _) | (with_reducible refine Kd.C_drewN ?_ _) | (with_reducible refine Kd.C_drew ?_)))
    (case side18 => exact (Kd.R_reads' HO501.out).2.1)
    (case side19 => repeat (first | exact (Kd.R_reads' HO504.out).2.2 | (with_reducible refine Kd.C_alloc ?_ _) | (with_reducible refine Kd.C_drewN ?_ _) | (with_reducible refine Kd.C_drew ?_)))
    (case side20 => exact (Kd.R_reads' HO504.out).2.1)
    (case side21 => repeat (first | exact (Kd.R_reads' HO507.out).2.2 | (with_reducible refine Kd.C_alloc ?_ _) | (with_reducible refine Kd.C_drewN ?_ _) | (with_reducible refine Kd.C_drew ?_)))
    (case side22 => exact (Kd.R_reads' HO507.out).2.1)
    (case side23 => repeat (first | exact (Kd.S_reads' HO510.out).2.2 | (with_reducible refine Kd.C_alloc ?_ _) | (with_reducible refine Kd.C_drewN ?_ _) | (with_reducible refine Kd.C_drew ?_)))
    (case side24 => exact (Kd.S_reads' HO510.out).2.1)
    (case side25 => repeat (first | exact (Kd.R_reads' HO513.out).2.2 | (with_reducible refine Kd.C_alloc ?_ _) | (with_reducible refine Kd.C_drewN ?_ _) | (with_reducible refine Kd.C_drew ?_)))
    (case side26 => exact (Kd.R_reads' HO513.out).2.1)
    (case side27 => repeat (first | exact (Kd.R_reads' HO516.out).2.2 | (with_reducible refine Kd.C_alloc ?_ _) | (with_reducible refine Kd.C_drewN ?_ _) | (with_reducible refine Kd.C_drew ?_)))
    (case side28 => exact (Kd.R_reads' HO516.out).2.1)
    (case side29 => repeat (first | exact (Kd.S_reads' HO519.out).2.2 | (with_reducible refine Kd.C_alloc ?_ _) | (with_reducible refine Kd.C_drewN ?_ _) | (with_reducible refine Kd.C_drew ?_)))
    (case side30 => exact (Kd.S_reads' HO519.out).2.1)
    (case side31 => repeat (first | exact (Kd.S_reads' HO522.out).2.2 | (with_reducible refine Kd.C_alloc ?_ _) | (with_reducible refine Kd.C_drewN ?_ _) | (with_reducible refine Kd.C_drew ?_)))
    (case side32 => exact (Kd.S_reads' HO522.out).2.1)
    rintro e w56 ⟨rfl, hb⟩
    refine ⟨_, rfl, ?_⟩
    have n0_ := Aside0.mk (Kd.R_below (ra_ HO444.out) hb)
    have n1_ := Aside0.mk (Kd.R_below (ra_ HO447.out) hb)
    have n2_ := Aside0.mk (Kd.R_below (ra_ HO450.out) hb)
    have n3_ := Aside0.mk (Kd.S_below (sa_ HO453.out) hb)
    have n4_ := Aside0.mk (Kd.R_below (ra_ HO456.out) hb)
    have n5_ := Aside0.mk (Kd.R_below (ra_ HO459.out) hb)
    have n6_ := Aside0.mk (Kd.S_below (sa_ HO462.out) hb)
    have n7_ := Aside0.mk (Kd.S_below (sa_ HO465.out) hb)
    have n8_ := Aside0.mk (Kd.R_below (ra_ HO472.out) hb)
    have n9_ := Aside0.mk (Kd.R_below (ra_ HO475.out) hb)
    have n10_ := Aside0.mk (Kd.R_below (ra_ HO478.out) hb)
    have n11_ := Aside0.mk (Kd.S_below (sa_ HO481.out) hb)
    have n12_ := Aside0.mk (Kd.R_below (ra_ HO484.out) hb)
    have n13_ := Aside0.mk (Kd.R_below (ra_ HO487.out) hb)
    have n14_ := Aside0.mk (Kd.S_below (sa_ HO490.out) hb)
    have n15_ := Aside0.mk (Kd.S_below (sa_ HO493.out) hb)
    have n16_ := Aside0.mk (Kd.R_below (ra_ HO501.out) hb)
    have n17_ := Aside0.mk (Kd.R_below (ra_ HO504.out) hb)
    have n18_ := Aside0.mk (Kd.R_below (ra_ HO507.out) hb)
    have n19_ := Aside0.mk (Kd.S_below (sa_ HO510.out) hb)
    have n20_ := Aside0.mk (Kd.R_below (ra_ HO513.out) hb)
    have n21_ := Aside0.mk (Kd.R_below (ra_ HO516.out) hb)
    have n22_ := Aside0.mk (Kd.S_below (sa_ HO519.out) hb)
    have n23_ := Aside0.mk (Kd.S_below (sa_ HO522.out) hb)
    have n24_ := Aside0.mk (bk_ BK438.out hb)
    have n25_ := Aside0.mk (bk_ BK495.out hb)
    have n26_ := Aside0.mk (bs_ HB.out hb)
    clear HO444
    clear HO447
    clear HO450
    clear HO453
    clear HO456
    clear HO459
    clear HO462
    clear HO465
    clear HO472
    clear HO475
    clear HO478
    clear HO481
    clear HO484
    clear HO487
    clear HO490
    clear HO493
    clear HO501
    clear HO504
    clear HO507
    clear HO510
    clear HO513
    clear HO516
    clear HO519
    clear HO522
    clear BK438
    clear BK495
    clear HB
    have HO444 := n0_
    have HO447 := n1_
    have HO450 := n2_
    have HO453 := n3_
    have HO456 := n4_
    have HO459 := n5_
    have HO462 := n6_
    have HO465 := n7_
    have HO472 := n8_
    have HO475 := n9_
    have HO478 := n10_
    have HO481 := n11_
    have HO484 := n12_
    have HO487 := n13_
    have HO490 := n14_
    have HO493 := n15_
    have HO501 := n16_
    have HO504 := n17_
    have HO507 := n18_
    have HO510 := n19_
    have HO513 := n20_
    have HO516 := n21_
    have HO519 := n22_
    have HO522 := n23_
    have BK438 := n24_
    have BK495 := n25_
    have HB := n26_
    clear n0_ n1_ n2_ n3_ n4_ n5_ n6_ n7_ n8_ n9_ n10_ n11_ n12_ n13_ n14_ n15_ n16_ n17_ n18_ n19_ n20_ n21_ n22_ n23_ n24_ n25_ n26_
    (try clear hb)
    (try clear hb2)
    (try clear hk)
    (try clear hi)
    refine hK.out _ _ ⟨(blk_cell BK495.out 0).trans rfl, (blk_cell BK495.out 1).trans rfl, (blk_cell BK495.out 2).trans rfl, (blk_cell BK495.out 3).trans rfl, (blk_cell BK495.out 4).trans rfl, (blk_cell BK495.out 5).trans rfl, (blk_cell BK495.out 6).trans rfl, (blk_cell BK495.out 7).trans rfl, (blk_cell BK495.out 8).trans rfl, (blk_cell BK495.out 9).trans rfl, (blk_cell BK495.out 10).trans rfl, (blk_cell BK438.out 0).trans rfl, (blk_cell BK438.out 1).trans rfl, (blk_cell BK438.out 2).trans rfl, (blk_cell BK438.out 3).trans rfl, (blk_cell BK438.out 4).trans rfl, (blk_cell BK438.out 5).trans rfl, (blk_cell BK438.out 6).trans rfl, (blk_cell BK438.out 7).trans rfl, (blk_cell BK438.out 8).trans rfl, (blk_cell BK438.out 9).trans rfl, (blk_cell BK438.out 10).trans rfl⟩ (fun hHeld => ?_)
    clear hK K
    refine norm_ (a' := ?_) ?_ ?_
    rotate_left
    ·show Act.put _ (some 37) _ = _
     simp only [Act.put, List.setIfInBounds_toArray, List.set_cons_zero, List.set_cons_succ, i64_w, i32_w]
     rfl
    refine pure_ (i := 4) (N := some 38) (v := ?_) (a' := ?_) (bt_ 5 31) rfl rfl (by kernel_rfl) (fun _ _ _ h => h) (Or.inl ⟨by rfl, ?_⟩) ?_ ?_
    rotate_left
    ·intro w'
     go_simp
     with_reducible rfl
    rotate_left
    ·simp only [Act.put, List.setIfInBounds_toArray, List.set_cons_zero, List.set_cons_succ, i64_w, i32_w]
     rfl
    refine done_ (by kernel_rfl) ?_
    try go_wp2
    go_ret
    exact ⟨fin_, bb_ HB.out⟩
   ·replace c17 := Bool.eq_false_iff.mpr c17
    subst c17
    rw [if_neg (show ¬ (false = true) by decide)] at H
    exact absurd H (by simp)

end Go.Proofs.Ythmfjdanmbcgbaa.PFnExactHasRoom
-- thin
