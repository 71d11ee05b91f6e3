/- Each function that the law comes to, as a plain function, with the proof that the call in the model gives what that function says (written by a program of this session out of the translation). No condition. -/
import Derived.Test.YthmfjdanmbcgbaaPFnExactIsRequestx0
import Derived.Test.YthmfjdanmbcgbaaPFnExactIsRequestx1
import Derived.Test.YthmfjdanmbcgbaaPFnExactIsRequestx2
import Derived.Test.YthmfjdanmbcgbaaPFnExactIsRequestx3
import Derived.Test.YthmfjdanmbcgbaaPFnExactIsRequestx10
import Derived.Test.YthmfjdanmbcgbaaPFnExactIsRequestx15
namespace Go.Proofs.Ythmfjdanmbcgbaa.PFnExactIsRequest
open Go.RowKit Go.Proofs.YthmfjdanmbcgbaaW.PrintWords Go.Proofs.YthmfjdanmbcgbaaW.PrintLast Go.Proofs.YthmfjdanmbcgbaaW.PrintMore
attribute [local go_sem] max2_int min2_int max_two min_two max_three min_three max_four min_four   -- for this text's walks alone
set_option linter.unusedVariables false
set_option linter.unusedSimpArgs false

/-! ### laws_FnExactIsRequest: function 11 -/
def laws_FnExactIsRequest.f (k : Nat) (a0_0 : Int) (a0_1 : Int) (l0_2 : List Int) (l0_3 : List Int) (l0_4 : List Int) (l0_5 : List (List (S132))) (l0_6 : List Int) (l0_7 : List Int) (l0_8 : List (List (S132))) (l0_9 : List (List (S132))) (a0_10 : Int) (a1 : Int) (a2 : Int) (a3 : Int) : Option (Bool) := (laws_szNet.f k a0_0 a0_1 l0_2 l0_3 l0_4 l0_5 l0_6 l0_7 l0_8 l0_9 a0_10 1048576).bind fun t456 => (if t456 < 0 then (some true) else ((laws_toNet.f k a0_0 a0_1 l0_2 l0_3 l0_4 l0_5 l0_6 l0_7 l0_8 l0_9 a0_10).bind fun bt457 => ((spec_IsRequest.f k bt457.1 bt457.2.1 bt457.2.2.1 bt457.2.2.2.1 bt457.2.2.2.2.1 bt457.2.2.2.2.2.1 bt457.2.2.2.2.2.2.1 bt457.2.2.2.2.2.2.2.1 bt457.2.2.2.2.2.2.2.2.1 bt457.2.2.2.2.2.2.2.2.2.1 bt457.2.2.2.2.2.2.2.2.2.2 a1 a2 a3).bind fun t484 => ((laws_toNet.f k a0_0 a0_1 l0_2 l0_3 l0_4 l0_5 l0_6 l0_7 l0_8 l0_9 a0_10).bind fun bt485 => ((impl_IsRequest.f k bt485.1 bt485.2.1 bt485.2.2.1 bt485.2.2.2.1 bt485.2.2.2.2.1 bt485.2.2.2.2.2.1 bt485.2.2.2.2.2.2.1 bt485.2.2.2.2.2.2.2.1 bt485.2.2.2.2.2.2.2.2.1 bt485.2.2.2.2.2.2.2.2.2.1 bt485.2.2.2.2.2.2.2.2.2.2 a1 a2 a3).bind fun t513 => (if (t513 != t484) = true then (none) else ((laws_toNet.f k a0_0 a0_1 l0_2 l0_3 l0_4 l0_5 l0_6 l0_7 l0_8 l0_9 a0_10).bind fun bt514 => ((laws_eqNet.f k bt485.1 bt485.2.1 bt485.2.2.1 bt485.2.2.2.1 bt485.2.2.2.2.1 bt485.2.2.2.2.2.1 bt485.2.2.2.2.2.2.1 bt485.2.2.2.2.2.2.2.1 bt485.2.2.2.2.2.2.2.2.1 bt485.2.2.2.2.2.2.2.2.2.1 bt485.2.2.2.2.2.2.2.2.2.2 bt514.1 bt514.2.1 bt514.2.2.1 bt514.2.2.2.1 bt514.2.2.2.2.1 bt514.2.2.2.2.2.1 bt514.2.2.2.2.2.2.1 bt514.2.2.2.2.2.2.2.1 bt514.2.2.2.2.2.2.2.2.1 bt514.2.2.2.2.2.2.2.2.2.1 bt514.2.2.2.2.2.2.2.2.2.2).bind fun t541 => (if t541 = true then (some true) else (none))))))))))
theorem laws_FnExactIsRequest.mono : ∀ a0 a1 a2 a3 a4 a5 a6 a7 a8 a9 a10 a11 a12 a13 k, LeO (laws_FnExactIsRequest.f k a0 a1 a2 a3 a4 a5 a6 a7 a8 a9 a10 a11 a12 a13) (laws_FnExactIsRequest.f (k + 1) a0 a1 a2 a3 a4 a5 a6 a7 a8 a9 a10 a11 a12 a13) := by
 intro a0 a1 a2 a3 a4 a5 a6 a7 a8 a9 a10 a11 a12 a13 k
 unfold laws_FnExactIsRequest.f
 repeat' first
   | (with_reducible exact impl_IsRequest.mono _ _ _ _ _ _ _ _ _ _ _ _ _ _ _)
   | (with_reducible exact laws_eqNet.mono _ _ _ _ _ _ _ _ _ _ _ _ _ _ _ _ _ _ _ _ _ _ _)
   | (with_reducible exact laws_szNet.mono _ _ _ _ _ _ _ _ _ _ _ _ _)
   | (with_reducible exact laws_toNet.mono _ _ _ _ _ _ _ _ _ _ _ _)
   | (with_reducible exact spec_IsRequest.mono _ _ _ _ _ _ _ _ _ _ _ _ _ _ _)
   | (with_reducible exact LeO.refl _)
   | (with_reducible exact LeO.none _)
   | (with_reducible refine LeO.ite ?_ ?_)
   | (with_reducible refine LeO.bind ?_ (fun _ => ?_))
   | exact impl_IsRequest.mono _ _ _ _ _ _ _ _ _ _ _ _ _ _ _
   | exact laws_eqNet.mono _ _ _ _ _ _ _ _ _ _ _ _ _ _ _ _ _ _ _ _ _ _ _
   | exact laws_szNet.mono _ _ _ _ _ _ _ _ _ _ _ _ _
   | exact laws_toNet.mono _ _ _ _ _ _ _ _ _ _ _ _
   | exact spec_IsRequest.mono _ _ _ _ _ _ _ _ _ _ _ _ _ _ _
   | exact LeO.none _
   | refine LeO.ite ?_ ?_
   | refine LeO.bind ?_ (fun _ => ?_)
set_option maxHeartbeats 8000000 in
set_option maxRecDepth 100000 in
theorem laws_FnExactIsRequest.calls (k : Nat) (a0_0 : Int) (a0_1 : Int) (A0_2 : Option Addr) (c0_2 : Nat) (l0_2 : List Int) (A0_3 : Option Addr) (c0_3 : Nat) (l0_3 : List Int) (A0_4 : Option Addr) (c0_4 : Nat) (l0_4 : List Int) (A0_5 : Option Addr) (c0_5 : Nat) (l0_5 : List (List (S132))) (A0_6 : Option Addr) (c0_6 : Nat) (l0_6 : List Int) (A0_7 : Option Addr) (c0_7 : Nat) (l0_7 : List Int) (A0_8 : Option Addr) (c0_8 : Nat) (l0_8 : List (List (S132))) (A0_9 : Option Addr) (c0_9 : Nat) (l0_9 : List (List (S132))) (a0_10 : Int) (a1 : Int) (a2 : Int) (a3 : Int) (r : Bool) (w : World) (hr0_2 : Kd.C (Kd.int .i64) w A0_2 l0_2.length l0_2) (hc0_2 : l0_2.length ≤ c0_2) (hr0_3 : Kd.C (Kd.int .i64) w A0_3 l0_3.length l0_3) (hc0_3 : l0_3.length ≤ c0_3) (hr0_4 : Kd.C (Kd.int .i64) w A0_4 l0_4.length l0_4) (hc0_4 : l0_4.length ≤ c0_4) (hr0_5 : Kd.C (Kd.slice 132 k132) w A0_5 l0_5.length l0_5) (hc0_5 : l0_5.length ≤ c0_5) (hr0_6 : Kd.C (Kd.int .i64) w A0_6 l0_6.length l0_6) (hc0_6 : l0_6.length ≤ c0_6) (hr0_7 : Kd.C (Kd.int .i64) w A0_7 l0_7.length l0_7) (hc0_7 : l0_7.length ≤ c0_7) (hr0_8 : Kd.C (Kd.slice 132 k132) w A0_8 l0_8.length l0_8) (hc0_8 : l0_8.length ≤ c0_8) (hr0_9 : Kd.C (Kd.slice 132 k132) w A0_9 l0_9.length l0_9) (hc0_9 : l0_9.length ≤ c0_9) (h : laws_FnExactIsRequest.f k a0_0 a0_1 l0_2 l0_3 l0_4 l0_5 l0_6 l0_7 l0_8 l0_9 a0_10 a1 a2 a3 = some r) :
  Calls Try.prog 11 #[.agg #[.int .i64 a0_0, .int .i64 a0_1, .slice A0_2 l0_2.length c0_2, .slice A0_3 l0_3.length c0_3, .slice A0_4 l0_4.length c0_4, .slice A0_5 l0_5.length c0_5, .slice A0_6 l0_6.length c0_6, .slice A0_7 l0_7.length c0_7, .slice A0_8 l0_8.length c0_8, .slice A0_9 l0_9.length c0_9, .int .i64 a0_10], .int .i64 a1, .int .i64 a2, .int .i64 a3] w fun e w' => e = .returned (.bool r) ∧ Below w.heap.size w w' := by
 have hu33 := Try.underlying33
 have hu44 := Try.underlying44
 have HR0_2 := Aside0.mk hr0_2
 have HC0_2 := Aside0.mk hc0_2
 clear hr0_2 hc0_2
 have HR0_3 := Aside0.mk hr0_3
 have HC0_3 := Aside0.mk hc0_3
 clear hr0_3 hc0_3
 have HR0_4 := Aside0.mk hr0_4
 have HC0_4 := Aside0.mk hc0_4
 clear hr0_4 hc0_4
 have HR0_5 := Aside0.mk hr0_5
 have HC0_5 := Aside0.mk hc0_5
 clear hr0_5 hc0_5
 have HR0_6 := Aside0.mk hr0_6
 have HC0_6 := Aside0.mk hc0_6
 clear hr0_6 hc0_6
 have HR0_7 := Aside0.mk hr0_7
 have HC0_7 := Aside0.mk hc0_7
 clear hr0_7 hc0_7
 have HR0_8 := Aside0.mk hr0_8
 have HC0_8 := Aside0.mk hc0_8
 clear hr0_8 hc0_8
 have HR0_9 := Aside0.mk hr0_9
 have HC0_9 := Aside0.mk hc0_9
 clear hr0_9 hc0_9
 have HB := Aside0.mk (Below.refl w.heap.size w)
 have H : ((laws_szNet.f k a0_0 a0_1 l0_2 l0_3 l0_4 l0_5 l0_6 l0_7 l0_8 l0_9 a0_10 1048576).bind fun t456 => (if t456 < 0 then (some true) else ((laws_toNet.f k a0_0 a0_1 l0_2 l0_3 l0_4 l0_5 l0_6 l0_7 l0_8 l0_9 a0_10).bind fun bt457 => ((spec_IsRequest.f k bt457.1 bt457.2.1 bt457.2.2.1 bt457.2.2.2.1 bt457.2.2.2.2.1 bt457.2.2.2.2.2.1 bt457.2.2.2.2.2.2.1 bt457.2.2.2.2.2.2.2.1 bt457.2.2.2.2.2.2.2.2.1 bt457.2.2.2.2.2.2.2.2.2.1 bt457.2.2.2.2.2.2.2.2.2.2 a1 a2 a3).bind fun t484 => ((laws_toNet.f k a0_0 a0_1 l0_2 l0_3 l0_4 l0_5 l0_6 l0_7 l0_8 l0_9 a0_10).bind fun bt485 => ((impl_IsRequest.f k bt485.1 bt485.2.1 bt485.2.2.1 bt485.2.2.2.1 bt485.2.2.2.2.1 bt485.2.2.2.2.2.1 bt485.2.2.2.2.2.2.1 bt485.2.2.2.2.2.2.2.1 bt485.2.2.2.2.2.2.2.2.1 bt485.2.2.2.2.2.2.2.2.2.1 bt485.2.2.2.2.2.2.2.2.2.2 a1 a2 a3).bind fun t513 => (if (t513 != t484) = true then (none) else ((laws_toNet.f k a0_0 a0_1 l0_2 l0_3 l0_4 l0_5 l0_6 l0_7 l0_8 l0_9 a0_10).bind fun bt514 => ((laws_eqNet.f k bt485.1 bt485.2.1 bt485.2.2.1 bt485.2.2.2.1 bt485.2.2.2.2.1 bt485.2.2.2.2.2.1 bt485.2.2.2.2.2.2.1 bt485.2.2.2.2.2.2.2.1 bt485.2.2.2.2.2.2.2.2.1 bt485.2.2.2.2.2.2.2.2.2.1 bt485.2.2.2.2.2.2.2.2.2.2 bt514.1 bt514.2.1 bt514.2.2.1 bt514.2.2.2.1 bt514.2.2.2.2.1 bt514.2.2.2.2.2.1 bt514.2.2.2.2.2.2.1 bt514.2.2.2.2.2.2.2.1 bt514.2.2.2.2.2.2.2.2.1 bt514.2.2.2.2.2.2.2.2.2.1 bt514.2.2.2.2.2.2.2.2.2.2).bind fun t541 => (if t541 = true then (some true) else (none))))))))))) = some r := h
 clear h
 replace H := Option.bind_eq_some_iff.mp H
 obtain ⟨t456, A50, H⟩ := H
 try dsimp only at H
 have A5 := Aside0.mk A50
 clear A50
 by_cases c6 : t456 < 0
 ·rw [if_pos c6] at H
  have c6b0 : decide (t456 < 0) = true := decide_eq_true c6
  clear c6
  obtain rfl := Option.some.inj H
  go_enter Try.func11, Try.ntmps11
  go_wp2_with (first | ((with_reducible refine gate_dst (N := 4) rfl ?_); refine box_event ?hg (N := 4) ?hd (cs := #[.int .i64 a0_0, .int .i64 a0_1, .slice A0_2 l0_2.length c0_2, .slice A0_3 l0_3.length c0_3, .slice A0_4 l0_4.length c0_4, .slice A0_5 l0_5.length c0_5, .slice A0_6 l0_6.length c0_6, .slice A0_7 l0_7.length c0_7, .slice A0_8 l0_8.length c0_8, .slice A0_9 l0_9.length c0_9, .int .i64 a0_10]) (t := 33) ?hr ?_; (case hd => rfl); (case hg => rfl); (case hr => first | (go_simp; done) | (go_simp; rfl)); intro gb455 hg w7 hbox hb; have BK455 := Aside0.mk (hbox); have GW455 := Aside0.mk ((by rw [hg]; exact (bz_ HB.out) : w.heap.size ≤ gb455)); have GE455 := Aside0.mk ((by rw [hg]; exact (bz_ HB.out) : w.heap.size ≤ gb455)); replace HB := Aside0.mk (bs_ HB.out hb); clear hb hbox hg; obtain ⟨hcz8_0, hcz8_1, hcz8_2, hcz8_3, hcz8_4, hcz8_5, hcz8_6, hcz8_7, hcz8_8, hcz8_9, hcz8_10, hfz8_0, hfz8_1, hfz8_2, hfz8_3, hfz8_4, hfz8_5, hfz8_6, hfz8_7, hfz8_8, hfz8_9, hfz8_10⟩ := cz11_ BK455.out) | ((with_reducible refine gate_callee (f := 15) rfl ?_); refine gm_ (some 15) Try.func15 #[.agg #[.int .i64 a0_0, .int .i64 a0_1, .slice A0_2 l0_2.length c0_2, .slice A0_3 l0_3.length c0_3, .slice A0_4 l0_4.length c0_4, .slice A0_5 l0_5.length c0_5, .slice A0_6 l0_6.length c0_6, .slice A0_7 l0_7.length c0_7, .slice A0_8 l0_8.length c0_8, .slice A0_9 l0_9.length c0_9, .int .i64 a0_10], .int .i64 1048576] rfl ?_; (with_reducible refine (laws_szNet.calls k a0_0 a0_1 _ _ l0_2 _ _ l0_3 _ _ l0_4 _ _ l0_5 _ _ l0_6 _ _ l0_7 _ _ l0_8 _ _ l0_9 a0_10 1048576 t456 _ ?side1 HC0_2.out ?side3 HC0_3.out ?side5 HC0_4.out ?side7 HC0_5.out ?side9 HC0_6.out ?side11 HC0_7.out ?side13 HC0_8.out ?side15 HC0_9.out A5.out).mono ?_); (case side1 => exact cb_ HR0_2.out HB.out); (case side3 => exact cb_ HR0_3.out HB.out); (case side5 => exact cb_ HR0_4.out HB.out); (case side7 => exact cb_ HR0_5.out HB.out); (case side9 => exact cb_ HR0_6.out HB.out); (case side11 => exact cb_ HR0_7.out HB.out); (case side13 => exact cb_ HR0_8.out HB.out); (case side15 => exact cb_ HR0_9.out HB.out); rintro e w9 ⟨rfl, hb⟩; refine ⟨_, rfl, ?_⟩; replace BK455 := Aside0.mk (bk_ BK455.out hb); replace HB := Aside0.mk (bs_ HB.out hb); (try clear hb)))
  go_ret
  exact ⟨fin_, bb_ HB.out⟩
 ·rw [if_neg c6] at H
  have c6b0 : decide (t456 < 0) = false := decide_eq_false c6
  clear c6
  replace H := Option.bind_eq_some_iff.mp H
  obtain ⟨⟨t457, t458, t459, t462, t465, t468, t471, t474, t477, t480, t483⟩, A100, H⟩ := H
  try dsimp only at H
  have A10 := Aside0.mk A100
  clear A100
  replace H := Option.bind_eq_some_iff.mp H
  obtain ⟨t484, A110, H⟩ := H
  try dsimp only at H
  have A11 := Aside0.mk A110
  clear A110
  replace H := Option.bind_eq_some_iff.mp H
  obtain ⟨⟨t485, t486, t487, t490, t493, t496, t499, t502, t505, t508, t511⟩, A120, H⟩ := H
  try dsimp only at H
  have A12 := Aside0.mk A120
  clear A120
  replace H := Option.bind_eq_some_iff.mp H
  obtain ⟨t513, A130, H⟩ := H
  try dsimp only at H
  have A13 := Aside0.mk A130
  clear A130
  by_cases c14 : (t513 != t484) = true
  ·rw [if_pos c14] at H
   exact absurd H (by simp)
  ·rw [if_neg c14] at H
   have c14b0 : (t513 != t484) = false := by simpa using c14
   (try (have c14b1 : decide (t513 = t484) = true := by simpa using c14))
   (try (have c14b2 : (t513 == t484) = true := by simpa using c14))
   clear c14
   replace H := Option.bind_eq_some_iff.mp H
   obtain ⟨⟨t514, t515, t516, t519, t522, t525, t528, t531, t534, t537, t540⟩, A150, H⟩ := H
   try dsimp only at H
   have A15 := Aside0.mk A150
   clear A150
   replace H := Option.bind_eq_some_iff.mp H
   obtain ⟨t541, A160, H⟩ := H
   try dsimp only at H
   have A16 := Aside0.mk A160
   clear A160
   by_cases c17 : t541 = true
   ·subst c17
    rw [if_pos rfl] at H
    obtain rfl := Option.some.inj H
    go_enter Try.func11, Try.ntmps11
    try go_wp2_with (first | ((with_reducible refine gate_dst (N := 4) rfl ?_); refine box_event ?hg (N := 4) ?hd (cs := #[.int .i64 a0_0, .int .i64 a0_1, .slice A0_2 l0_2.length c0_2, .slice A0_3 l0_3.length c0_3, .slice A0_4 l0_4.length c0_4, .slice A0_5 l0_5.length c0_5, .slice A0_6 l0_6.length c0_6, .slice A0_7 l0_7.length c0_7, .slice A0_8 l0_8.length c0_8, .slice A0_9 l0_9.length c0_9, .int .i64 a0_10]) (t := 33) ?hr ?_; (case hd => rfl); (case hg => rfl); (case hr => first | (go_simp; done) | (go_simp; rfl)); intro gb455 hg w18 hbox hb; have BK455 := Aside0.mk (hbox); have GW455 := Aside0.mk ((by rw [hg]; exact (bz_ HB.out) : w.heap.size ≤ gb455)); have GE455 := Aside0.mk ((by rw [hg]; exact (bz_ HB.out) : w.heap.size ≤ gb455)); replace HB := Aside0.mk (bs_ HB.out hb); clear hb hbox hg; obtain ⟨hcz19_0, hcz19_1, hcz19_2, hcz19_3, hcz19_4, hcz19_5, hcz19_6, hcz19_7, hcz19_8, hcz19_9, hcz19_10, hfz19_0, hfz19_1, hfz19_2, hfz19_3, hfz19_4, hfz19_5, hfz19_6, hfz19_7, hfz19_8, hfz19_9, hfz19_10⟩ := cz11_ BK455.out) | ((with_reducible refine gate_callee (f := 15) rfl ?_); refine gm_ (some 15) Try.func15 #[.agg #[.int .i64 a0_0, .int .i64 a0_1, .slice A0_2 l0_2.length c0_2, .slice A0_3 l0_3.length c0_3, .slice A0_4 l0_4.length c0_4, .slice A0_5 l0_5.length c0_5, .slice A0_6 l0_6.length c0_6, .slice A0_7 l0_7.length c0_7, .slice A0_8 l0_8.length c0_8, .slice A0_9 l0_9.length c0_9, .int .i64 a0_10], .int .i64 1048576] rfl ?_; (with_reducible refine (laws_szNet.calls k a0_0 a0_1 _ _ l0_2 _ _ l0_3 _ _ l0_4 _ _ l0_5 _ _ l0_6 _ _ l0_7 _ _ l0_8 _ _ l0_9 a0_10 1048576 t456 _ ?side1 HC0_2.out ?side3 HC0_3.out ?side5 HC0_4.out ?side7 HC0_5.out ?side9 HC0_6.out ?side11 HC0_7.out ?side13 HC0_8.out ?side15 HC0_9.out A5.out).mono ?_); (case side1 => exact cb_ HR0_2.out HB.out); (case side3 => exact cb_ HR0_3.out HB.out); (case side5 => exact cb_ HR0_4.out HB.out); (case side7 => exact cb_ HR0_5.out HB.out); (case side9 => exact cb_ HR0_6.out HB.out); (case side11 => exact cb_ HR0_7.out HB.out); (case side13 => exact cb_ HR0_8.out HB.out); (case side15 => exact cb_ HR0_9.out HB.out); rintro e w20 ⟨rfl, hb⟩; refine ⟨_, rfl, ?_⟩; replace BK455 := Aside0.mk (bk_ BK455.out hb); replace HB := Aside0.mk (bs_ HB.out hb); (try clear hb); obtain ⟨hcz21_0, hcz21_1, hcz21_2, hcz21_3, hcz21_4, hcz21_5, hcz21_6, hcz21_7, hcz21_8, hcz21_9, hcz21_10, hfz21_0, hfz21_1, hfz21_2, hfz21_3, hfz21_4, hfz21_5, hfz21_6, hfz21_7, hfz21_8, hfz21_9, hfz21_10⟩ := cz11_ BK455.out) | ((with_reducible refine gate_callee (f := 17) rfl ?_); refine gm_ (some 19) Try.func17 #[.agg #[.int .i64 a0_0, .int .i64 a0_1, .slice A0_2 l0_2.length c0_2, .slice A0_3 l0_3.length c0_3, .slice A0_4 l0_4.length c0_4, .slice A0_5 l0_5.length c0_5, .slice A0_6 l0_6.length c0_6, .slice A0_7 l0_7.length c0_7, .slice A0_8 l0_8.length c0_8, .slice A0_9 l0_9.length c0_9, .int .i64 a0_10]] rfl ?_; (with_reducible refine (laws_toNet.calls k a0_0 a0_1 _ _ l0_2 _ _ l0_3 _ _ l0_4 _ _ l0_5 _ _ l0_6 _ _ l0_7 _ _ l0_8 _ _ l0_9 a0_10 t457 t458 t459 t462 t465 t468 t471 t474 t477 t480 t483 _ ?side1 HC0_2.out ?side3 HC0_3.out ?side5 HC0_4.out ?side7 HC0_5.out ?side9 HC0_6.out ?side11 HC0_7.out ?side13 HC0_8.out ?side15 HC0_9.out A10.out).mono ?_); (case side1 => exact cb_ HR0_2.out HB.out); (case side3 => exact cb_ HR0_3.out HB.out); (case side5 => exact cb_ HR0_4.out HB.out); (case side7 => exact cb_ HR0_5.out HB.out); (case side9 => exact cb_ HR0_6.out HB.out); (case side11 => exact cb_ HR0_7.out HB.out); (case side13 => exact cb_ HR0_8.out HB.out); (case side15 => exact cb_ HR0_9.out HB.out); rintro e w22 ⟨v460, v463, v466, v469, v472, v475, v478, v481, rfl, ho0, ho1, ho2, ho3, ho4, ho5, ho6, ho7, hb⟩; refine ⟨_, rfl, ?_⟩; have HO461 := Aside0.mk (Kd.R_lower ho0 (bz_ HB.out)); have HO464 := Aside0.mk (Kd.R_lower ho1 (bz_ HB.out)); have HO467 := Aside0.mk (Kd.R_lower ho2 (bz_ HB.out)); have HO470 := Aside0.mk (Kd.S_lower ho3 (bz_ HB.out)); have HO473 := Aside0.mk (Kd.R_lower ho4 (bz_ HB.out)); have HO476 := Aside0.mk (Kd.R_lower ho5 (bz_ HB.out)); have HO479 := Aside0.mk (Kd.S_lower ho6 (bz_ HB.out)); have HO482 := Aside0.mk (Kd.S_lower ho7 (bz_ HB.out)); replace BK455 := Aside0.mk (bk_ BK455.out hb); replace HB := Aside0.mk (bs_ HB.out hb); (try clear hb); (try clear ho0); (try clear ho1); (try clear ho2); (try clear ho3); (try clear ho4); (try clear ho5); (try clear ho6); (try clear ho7); obtain ⟨Ao23, co23, eo23⟩ := Kd.R_slice HO461.out; subst eo23; obtain ⟨Ao24, co24, eo24⟩ := Kd.R_slice HO464.out; subst eo24; obtain ⟨Ao25, co25, eo25⟩ := Kd.R_slice HO467.out; subst eo25; obtain ⟨Ao26, co26, eo26⟩ := Kd.S_slice HO470.out; subst eo26; obtain ⟨Ao27, co27, eo27⟩ := Kd.R_slice HO473.out; subst eo27; obtain ⟨Ao28, co28, eo28⟩ := Kd.R_slice HO476.out; subst eo28; obtain ⟨Ao29, co29, eo29⟩ := Kd.S_slice HO479.out; subst eo29; obtain ⟨Ao30, co30, eo30⟩ := Kd.S_slice HO482.out; subst eo30) | ((with_reducible refine gate_callee (f := 38) rfl ?_); refine gm_ (some 23) Try.func38 #[.agg #[.int .i64 t457, .int .i64 t458, .slice Ao23 t459.length co23, .slice Ao24 t462.length co24, .slice Ao25 t465.length co25, .slice Ao26 t468.length co26, .slice Ao27 t471.length co27, .slice Ao28 t474.length co28, .slice Ao29 t477.length co29, .slice Ao30 t480.length co30, .int .i64 t483], .int .i64 a1, .int .i64 a2, .int .i64 a3] rfl ?_; (with_reducible refine (spec_IsRequest.calls k t457 t458 _ _ t459 _ _ t462 _ _ t465 _ _ t468 _ _ t471 _ _ t474 _ _ t477 _ _ t480 t483 a1 a2 a3 t484 _ ?side1 ?side2 ?side3 ?side4 ?side5 ?side6 ?side7 ?side8 ?side9 ?side10 ?side11 ?side12 ?side13 ?side14 ?side15 ?side16 A11.out).mono ?_); (case side1 => repeat (first | exact (Kd.R_reads' HO461.out).2.2 | (with_reducible refine Kd.C_alloc ?_ _) | (with_reducible refine Kd.C_drewN ?_ _) | (with_reducible refine Kd.C_drew ?_))); (case side2 => exact (Kd.R_reads' HO461.out).2.1); (case side3 => repeat (first | exact (Kd.R_reads' HO464.out).2.2 | (with_reducible refine Kd.C_alloc ?_ _) | (with_reducible refine Kd.C_drewN ?_ _) | (with_reducible refine Kd.C_drew ?_))); (case side4 => exact (Kd.R_reads' HO464.out).2.1); (case side5 => repeat (first | exact (Kd.R_reads' HO467.out).2.2 | (with_reducible refine Kd.C_alloc ?_ _) | (with_reducible refine Kd.C_drewN ?_ _) | (with_reducible refine Kd.C_drew ?_))); (case side6 => exact (Kd.R_reads' HO467.out).2.1); (case side7 => repeat (first | exact (Kd.S_reads' HO470.out).2.2 | (with_reducible refine Kd.C_alloc ?_ _) | (with_reducible refine Kd.C_drewN ?_ _) | (with_reducible refine Kd.C_drew ?_))); (case side8 => exact (Kd.S_reads' HO470.out).2.1); (case side9 => repeat (first | exact (Kd.R_reads' HO473.out).2.2 | (with_reducible refine Kd.C_alloc ?_ _) | (with_reducible refine Kd.C_drewN ?_ _) | (with_reducible refine Kd.C_drew ?_))); (case side10 => exact (Kd.R_reads' HO473.out).2.1); (case side11 => repeat (first | exact (Kd.R_reads' HO476.out).2.2 | (with_reducible refine Kd.C_alloc ?_ _) | (with_reducible refine Kd.C_drewN ?_ _) | (with_reducible refine Kd.C_drew ?_))); (case side12 => exact (Kd.R_reads' HO476.out).2.1); (case side13 => repeat (first | exact (Kd.S_reads' HO479.out).2.2 | (with_reducible refine Kd.C_alloc ?_ _) | (with_reducible refine Kd.C_drewN ?_ _) | (with_reducible refine Kd.C_drew ?_))); (case side14 => exact (Kd.S_reads' HO479.out).2.1); (case side15 => repeat (first | exact (Kd.S_reads' HO482.out).2.2 | (with_reducible refine Kd.C_alloc ?_ _) | (with_reducible refine Kd.C_drewN ?_ _) | (with_reducible refine Kd.C_drew ?_))); (case side16 => exact (Kd.S_reads' HO482.out).2.1); rintro e w31 ⟨rfl, hb⟩; refine ⟨_, rfl, ?_⟩; replace HO461 := Aside0.mk (Kd.R_below (ra_ HO461.out) hb); replace HO464 := Aside0.mk (Kd.R_below (ra_ HO464.out) hb); replace HO467 := Aside0.mk (Kd.R_below (ra_ HO467.out) hb); replace HO470 := Aside0.mk (Kd.S_below (sa_ HO470.out) hb); replace HO473 := Aside0.mk (Kd.R_below (ra_ HO473.out) hb); replace HO476 := Aside0.mk (Kd.R_below (ra_ HO476.out) hb); replace HO479 := Aside0.mk (Kd.S_below (sa_ HO479.out) hb); replace HO482 := Aside0.mk (Kd.S_below (sa_ HO482.out) hb); replace BK455 := Aside0.mk (bk_ BK455.out hb); replace HB := Aside0.mk (bs_ HB.out hb); (try clear hb); obtain ⟨hcz32_0, hcz32_1, hcz32_2, hcz32_3, hcz32_4, hcz32_5, hcz32_6, hcz32_7, hcz32_8, hcz32_9, hcz32_10, hfz32_0, hfz32_1, hfz32_2, hfz32_3, hfz32_4, hfz32_5, hfz32_6, hfz32_7, hfz32_8, hfz32_9, hfz32_10⟩ := cz11_ BK455.out) | ((with_reducible refine gate_callee (f := 17) rfl ?_); refine gm_ (some 25) Try.func17 #[.agg #[.int .i64 a0_0, .int .i64 a0_1, .slice A0_2 l0_2.length c0_2, .slice A0_3 l0_3.length c0_3, .slice A0_4 l0_4.length c0_4, .slice A0_5 l0_5.length c0_5, .slice A0_6 l0_6.length c0_6, .slice A0_7 l0_7.length c0_7, .slice A0_8 l0_8.length c0_8, .slice A0_9 l0_9.length c0_9, .int .i64 a0_10]] rfl ?_; (with_reducible refine (laws_toNet.calls k a0_0 a0_1 _ _ l0_2 _ _ l0_3 _ _ l0_4 _ _ l0_5 _ _ l0_6 _ _ l0_7 _ _ l0_8 _ _ l0_9 a0_10 t485 t486 t487 t490 t493 t496 t499 t502 t505 t508 t511 _ ?side1 HC0_2.out ?side3 HC0_3.out ?side5 HC0_4.out ?side7 HC0_5.out ?side9 HC0_6.out ?side11 HC0_7.out ?side13 HC0_8.out ?side15 HC0_9.out A12.out).mono ?_); (case side1 => exact cb_ HR0_2.out HB.out); (case side3 => exact cb_ HR0_3.out HB.out); (case side5 => exact cb_ HR0_4.out HB.out); (case side7 => exact cb_ HR0_5.out HB.out); (case side9 => exact cb_ HR0_6.out HB.out); (case side11 => exact cb_ HR0_7.out HB.out); (case side13 => exact cb_ HR0_8.out HB.out); (case side15 => exact cb_ HR0_9.out HB.out); rintro e w33 ⟨v488, v491, v494, v497, v500, v503, v506, v509, rfl, ho0, ho1, ho2, ho3, ho4, ho5, ho6, ho7, hb⟩; refine ⟨_, rfl, ?_⟩; have HO489 := Aside0.mk (Kd.R_lower (Kd.R_new' (Kd.R_new' (Kd.R_new' (Kd.R_new' (Kd.R_new' ho0 (rl_ HO461.out)) (rl_ HO464.out)) (rl_ HO467.out)) (rl_ HO473.out)) (rl_ HO476.out)) (bz_ HB.out)); have HO492 := Aside0.mk (Kd.R_lower (Kd.R_new' (Kd.R_new' (Kd.R_new' (Kd.R_new' (Kd.R_new' ho1 (rl_ HO461.out)) (rl_ HO464.out)) (rl_ HO467.out)) (rl_ HO473.out)) (rl_ HO476.out)) (bz_ HB.out)); have HO495 := Aside0.mk (Kd.R_lower (Kd.R_new' (Kd.R_new' (Kd.R_new' (Kd.R_new' (Kd.R_new' ho2 (rl_ HO461.out)) (rl_ HO464.out)) (rl_ HO467.out)) (rl_ HO473.out)) (rl_ HO476.out)) (bz_ HB.out)); have HO498 := Aside0.mk (Kd.S_lower (Kd.S_new' (Kd.S_new' (Kd.S_new' ho3 (sl_ HO470.out)) (sl_ HO479.out)) (sl_ HO482.out)) (bz_ HB.out)); have HO501 := Aside0.mk (Kd.R_lower (Kd.R_new' (Kd.R_new' (Kd.R_new' (Kd.R_new' (Kd.R_new' ho4 (rl_ HO461.out)) (rl_ HO464.out)) (rl_ HO467.out)) (rl_ HO473.out)) (rl_ HO476.out)) (bz_ HB.out)); have HO504 := Aside0.mk (Kd.R_lower (Kd.R_new' (Kd.R_new' (Kd.R_new' (Kd.R_new' (Kd.R_new' ho5 (rl_ HO461.out)) (rl_ HO464.out)) (rl_ HO467.out)) (rl_ HO473.out)) (rl_ HO476.out)) (bz_ HB.out)); replace HO461 := Aside0.mk (Kd.R_mono (Kd.R_told (Kd.R_told (Kd.R_told (Kd.R_told (Kd.R_told (Kd.R_old (ra_ HO461.out) hb) (Kd.R_base ho0)) (Kd.R_base ho1)) (Kd.R_base ho2)) (Kd.R_base ho4)) (Kd.R_base ho5)) (fun _ h_ => h_.1)); replace HO464 := Aside0.mk (Kd.R_mono (Kd.R_told (Kd.R_told (Kd.R_told (Kd.R_told (Kd.R_told (Kd.R_old (ra_ HO464.out) hb) (Kd.R_base ho0)) (Kd.R_base ho1)) (Kd.R_base ho2)) (Kd.R_base ho4)) (Kd.R_base ho5)) (fun _ h_ => h_.1)); replace HO467 := Aside0.mk (Kd.R_mono (Kd.R_told (Kd.R_told (Kd.R_told (Kd.R_told (Kd.R_told (Kd.R_old (ra_ HO467.out) hb) (Kd.R_base ho0)) (Kd.R_base ho1)) (Kd.R_base ho2)) (Kd.R_base ho4)) (Kd.R_base ho5)) (fun _ h_ => h_.1)); replace HO473 := Aside0.mk (Kd.R_mono (Kd.R_told (Kd.R_told (Kd.R_told (Kd.R_told (Kd.R_told (Kd.R_old (ra_ HO473.out) hb) (Kd.R_base ho0)) (Kd.R_base ho1)) (Kd.R_base ho2)) (Kd.R_base ho4)) (Kd.R_base ho5)) (fun _ h_ => h_.1)); replace HO476 := Aside0.mk (Kd.R_mono (Kd.R_told (Kd.R_told (Kd.R_told (Kd.R_told (Kd.R_told (Kd.R_old (ra_ HO476.out) hb) (Kd.R_base ho0)) (Kd.R_base ho1)) (Kd.R_base ho2)) (Kd.R_base ho4)) (Kd.R_base ho5)) (fun _ h_ => h_.1)); have HO507 := Aside0.mk (Kd.S_lower (Kd.S_new' (Kd.S_new' (Kd.S_new' ho6 (sl_ HO470.out)) (sl_ HO479.out)) (sl_ HO482.out)) (bz_ HB.out)); have HO510 := Aside0.mk (Kd.S_lower (Kd.S_new' (Kd.S_new' (Kd.S_new' ho7 (sl_ HO470.out)) (sl_ HO479.out)) (sl_ HO482.out)) (bz_ HB.out)); replace HO470 := Aside0.mk (Kd.S_mono (Kd.S_told (Kd.S_told (Kd.S_told (Kd.S_old (sa_ HO470.out) hb) (Kd.S_base ho3)) (Kd.S_base ho6)) (Kd.S_base ho7)) (fun _ h_ => h_.1)); replace HO479 := Aside0.mk (Kd.S_mono (Kd.S_told (Kd.S_told (Kd.S_told (Kd.S_old (sa_ HO479.out) hb) (Kd.S_base ho3)) (Kd.S_base ho6)) (Kd.S_base ho7)) (fun _ h_ => h_.1)); replace HO482 := Aside0.mk (Kd.S_mono (Kd.S_told (Kd.S_told (Kd.S_told (Kd.S_old (sa_ HO482.out) hb) (Kd.S_base ho3)) (Kd.S_base ho6)) (Kd.S_base ho7)) (fun _ h_ => h_.1)); replace BK455 := Aside0.mk (bk_ BK455.out hb); replace HB := Aside0.mk (bs_ HB.out hb); (try clear hb); (try clear ho0); (try clear ho1); (try clear ho2); (try clear ho3); (try clear ho4); (try clear ho5); (try clear ho6); (try clear ho7)) | ((with_reducible refine gate_dst (N := 11) rfl ?_); refine box_event ?hg (N := 11) ?hd (cs := #[.int .i64 0, .int .i64 0, .slice none 0 0, .slice none 0 0, .slice none 0 0, .slice none 0 0, .slice none 0 0, .slice none 0 0, .slice none 0 0, .slice none 0 0, .int .i64 0]) (t := 44) ?hr ?_; (case hd => rfl); (case hg => rfl); (case hr => first | (go_simp; done) | (go_simp; rfl)); intro gb512 hg w34 hbox hb; replace HO461 := Aside0.mk (Kd.R_below (ra_ HO461.out) hb); replace HO464 := Aside0.mk (Kd.R_below (ra_ HO464.out) hb); replace HO467 := Aside0.mk (Kd.R_below (ra_ HO467.out) hb); replace HO470 := Aside0.mk (Kd.S_below (sa_ HO470.out) hb); replace HO473 := Aside0.mk (Kd.R_below (ra_ HO473.out) hb); replace HO476 := Aside0.mk (Kd.R_below (ra_ HO476.out) hb); replace HO479 := Aside0.mk (Kd.S_below (sa_ HO479.out) hb); replace HO482 := Aside0.mk (Kd.S_below (sa_ HO482.out) hb); replace HO489 := Aside0.mk (Kd.R_below (ra_ HO489.out) hb); replace HO492 := Aside0.mk (Kd.R_below (ra_ HO492.out) hb); replace HO495 := Aside0.mk (Kd.R_below (ra_ HO495.out) hb); replace HO498 := Aside0.mk (Kd.S_below (sa_ HO498.out) hb); replace HO501 := Aside0.mk (Kd.R_below (ra_ HO501.out) hb); replace HO504 := Aside0.mk (Kd.R_below (ra_ HO504.out) hb); replace HO507 := Aside0.mk (Kd.S_below (sa_ HO507.out) hb); replace HO510 := Aside0.mk (Kd.S_below (sa_ HO510.out) hb); have BK512 := Aside0.mk (hbox); have GW512 := Aside0.mk ((by rw [hg]; exact (bz_ HB.out) : w.heap.size ≤ gb512)); have GE512 := Aside0.mk ((by rw [hg]; exact (bz_ HB.out) : w.heap.size ≤ gb512)); replace HB := Aside0.mk (bs_ HB.out hb); have NB455_512 := Aside0.mk ((by rw [hg]; exact Nat.ne_of_lt (bl_ BK455.out) : gb455 ≠ gb512)); have NB512_455 := Aside0.mk ((by rw [hg]; exact Nat.ne_of_gt (bl_ BK455.out) : gb512 ≠ gb455)); replace BK455 := Aside0.mk (bk_ BK455.out hb); clear hb hbox hg; have hnb35 := NB512_455.out; have hnc35 := NB455_512.out; obtain ⟨hcz36_0, hcz36_1, hcz36_2, hcz36_3, hcz36_4, hcz36_5, hcz36_6, hcz36_7, hcz36_8, hcz36_9, hcz36_10, hfz36_0, hfz36_1, hfz36_2, hfz36_3, hfz36_4, hfz36_5, hfz36_6, hfz36_7, hfz36_8, hfz36_9, hfz36_10⟩ := cz11_ BK512.out; obtain ⟨Ao37, co37, eo37⟩ := Kd.R_slice HO489.out; subst eo37; obtain ⟨Ao38, co38, eo38⟩ := Kd.R_slice HO492.out; subst eo38; obtain ⟨Ao39, co39, eo39⟩ := Kd.R_slice HO495.out; subst eo39; obtain ⟨Ao40, co40, eo40⟩ := Kd.S_slice HO498.out; subst eo40; obtain ⟨Ao41, co41, eo41⟩ := Kd.R_slice HO501.out; subst eo41; obtain ⟨Ao42, co42, eo42⟩ := Kd.R_slice HO504.out; subst eo42; obtain ⟨Ao43, co43, eo43⟩ := Kd.S_slice HO507.out; subst eo43; obtain ⟨Ao44, co44, eo44⟩ := Kd.S_slice HO510.out; subst eo44) | ((with_reducible refine gate_callee (f := 39) rfl ?_); refine gm_ (some 30) Try.func39 #[.agg #[.int .i64 t485, .int .i64 t486, .slice Ao37 t487.length co37, .slice Ao38 t490.length co38, .slice Ao39 t493.length co39, .slice Ao40 t496.length co40, .slice Ao41 t499.length co41, .slice Ao42 t502.length co42, .slice Ao43 t505.length co43, .slice Ao44 t508.length co44, .int .i64 t511], .int .i64 a1, .int .i64 a2, .int .i64 a3] rfl ?_; (with_reducible refine (impl_IsRequest.calls k t485 t486 _ _ t487 _ _ t490 _ _ t493 _ _ t496 _ _ t499 _ _ t502 _ _ t505 _ _ t508 t511 a1 a2 a3 t513 _ ?side1 ?side2 ?side3 ?side4 ?side5 ?side6 ?side7 ?side8 ?side9 ?side10 ?side11 ?side12 ?side13 ?side14 ?side15 ?side16 A13.out).mono ?_); (case side1 => refine (Kd.R_reads' (e := 3) (base := w.heap.size) (ok := fun k_ => ((((((some k_ ≠ (.slice Ao38 t490.length co38 : Value).ownBlock ∧ (some k_ ≠ (.slice Ao39 t493.length co39 : Value).ownBlock ∧ (some k_ ≠ (.slice Ao41 t499.length co41 : Value).ownBlock ∧ some k_ ≠ (.slice Ao42 t502.length co42 : Value).ownBlock))) ∧ some k_ ≠ (.slice Ao23 t459.length co23 : Value).ownBlock) ∧ some k_ ≠ (.slice Ao24 t462.length co24 : Value).ownBlock) ∧ some k_ ≠ (.slice Ao25 t465.length co25 : Value).ownBlock) ∧ some k_ ≠ (.slice Ao27 t471.length co27 : Value).ownBlock) ∧ some k_ ≠ (.slice Ao28 t474.length co28 : Value).ownBlock)) (n := t487.length) (c := co37) ?_).2.2; exact (rm_ (Kd.R_types HO489.out BK512.out (by decide)) (fun _ h_ => h_.1))); (case side2 => exact (Kd.R_reads' HO489.out).2.1); (case side3 => refine (Kd.R_reads' (e := 3) (base := w.heap.size) (ok := fun k_ => ((((((some k_ ≠ (.slice Ao37 t487.length co37 : Value).ownBlock ∧ (some k_ ≠ (.slice Ao39 t493.length co39 : Value).ownBlock ∧ (some k_ ≠ (.slice Ao41 t499.length co41 : Value).ownBlock ∧ some k_ ≠ (.slice Ao42 t502.length co42 : Value).ownBlock))) ∧ some k_ ≠ (.slice Ao23 t459.length co23 : Value).ownBlock) ∧ some k_ ≠ (.slice Ao24 t462.length co24 : Value).ownBlock) ∧ some k_ ≠ (.slice Ao25 t465.length co25 : Value).ownBlock) ∧ some k_ ≠ (.slice Ao27 t471.length co27 : Value).ownBlock) ∧ some k_ ≠ (.slice Ao28 t474.length co28 : Value).ownBlock)) (n := t490.length) (c := co38) ?_).2.2; exact (rm_ (Kd.R_types HO492.out BK512.out (by decide)) (fun _ h_ => h_.1))); (case side4 => exact (Kd.R_reads' HO492.out).2.1); (case side5 => refine (Kd.R_reads' (e := 3) (base := w.heap.size) (ok := fun k_ => ((((((some k_ ≠ (.slice Ao37 t487.length co37 : Value).ownBlock ∧ (some k_ ≠ (.slice Ao38 t490.length co38 : Value).ownBlock ∧ (some k_ ≠ (.slice Ao41 t499.length co41 : Value).ownBlock ∧ some k_ ≠ (.slice Ao42 t502.length co42 : Value).ownBlock))) ∧ some k_ ≠ (.slice Ao23 t459.length co23 : Value).ownBlock) ∧ some k_ ≠ (.slice Ao24 t462.length co24 : Value).ownBlock) ∧ some k_ ≠ (.slice Ao25 t465.length co25 : Value).ownBlock) ∧ some k_ ≠ (.slice Ao27 t471.length co27 : Value).ownBlock) ∧ some k_ ≠ (.slice Ao28 t474.length co28 : Value).ownBlock)) (n := t493.length) (c := co39) ?_).2.2; exact (rm_ (Kd.R_types HO495.out BK512.out (by decide)) (fun _ h_ => h_.1))); (case side6 => exact (Kd.R_reads' HO495.out).2.1); (case side7 => refine (Kd.S_reads' (e := 62) (base := w.heap.size) (ok := fun k_ => ((((some k_ ≠ (.slice Ao43 t505.length co43 : Value).ownBlock ∧ some k_ ≠ (.slice Ao44 t508.length co44 : Value).ownBlock) ∧ some k_ ≠ (.slice Ao26 t468.length co26 : Value).ownBlock) ∧ some k_ ≠ (.slice Ao29 t477.length co29 : Value).ownBlock) ∧ some k_ ≠ (.slice Ao30 t480.length co30 : Value).ownBlock)) (n := t496.length) (c := co40) ?_).2.2; exact (sm_ (Kd.S_types HO498.out BK512.out (by decide)) (fun _ h_ => h_.1))); (case side8 => exact (Kd.S_reads' HO498.out).2.1); (case side9 => refine (Kd.R_reads' (e := 3) (base := w.heap.size) (ok := fun k_ => ((((((some k_ ≠ (.slice Ao37 t487.length co37 : Value).ownBlock ∧ (some k_ ≠ (.slice Ao38 t490.length co38 : Value).ownBlock ∧ (some k_ ≠ (.slice Ao39 t493.length co39 : Value).ownBlock ∧ some k_ ≠ (.slice Ao42 t502.length co42 : Value).ownBlock))) ∧ some k_ ≠ (.slice Ao23 t459.length co23 : Value).ownBlock) ∧ some k_ ≠ (.slice Ao24 t462.length co24 : Value).ownBlock) ∧ some k_ ≠ (.slice Ao25 t465.length co25 : Value).ownBlock) ∧ some k_ ≠ (.slice Ao27 t471.length co27 : Value).ownBlock) ∧ some k_ ≠ (.slice Ao28 t474.length co28 : Value).ownBlock)) (n := t499.length) (c := co41) ?_).2.2; exact (rm_ (Kd.R_types HO501.out BK512.out (by decide)) (fun _ h_ => h_.1))); (case side10 => exact (Kd.R_reads' HO501.out).2.1); (case side11 => refine (Kd.R_reads' (e := 3) (base := w.heap.size) (ok := fun k_ => ((((((some k_ ≠ (.slice Ao37 t487.length co37 : Value).ownBlock ∧ (some k_ ≠ (.slice Ao38 t490.length co38 : Value).ownBlock ∧ (some k_ ≠ (.slice Ao39 t493.length co39 : Value).ownBlock ∧ some k_ ≠ (.slice Ao41 t499.length co41 : Value).ownBlock))) ∧ some k_ ≠ (.slice Ao23 t459.length co23 : Value).ownBlock) ∧ some k_ ≠ (.slice Ao24 t462.length co24 : Value).ownBlock) ∧ some k_ ≠ (.slice Ao25 t465.length co25 : Value).ownBlock) ∧ some k_ ≠ (.slice Ao27 t471.length co27 : Value).ownBlock) ∧ some k_ ≠ (.slice Ao28 t474.length co28 : Value).ownBlock)) (n := t502.length) (c := co42) ?_).2.2; exact (rm_ (Kd.R_types HO504.out BK512.out (by decide)) (fun _ h_ => h_.1))); (case side12 => exact (Kd.R_reads' HO504.out).2.1); (case side13 => refine (Kd.S_reads' (e := 62) (base := w.heap.size) (ok := fun k_ => ((((some k_ ≠ (.slice Ao40 t496.length co40 : Value).ownBlock ∧ some k_ ≠ (.slice Ao44 t508.length co44 : Value).ownBlock) ∧ some k_ ≠ (.slice Ao26 t468.length co26 : Value).ownBlock) ∧ some k_ ≠ (.slice Ao29 t477.length co29 : Value).ownBlock) ∧ some k_ ≠ (.slice Ao30 t480.length co30 : Value).ownBlock)) (n := t505.length) (c := co43) ?_).2.2; exact (sm_ (Kd.S_types HO507.out BK512.out (by decide)) (fun _ h_ => h_.1))); (case side14 => exact (Kd.S_reads' HO507.out).2.1); (case side15 => refine (Kd.S_reads' (e := 62) (base := w.heap.size) (ok := fun k_ => ((((some k_ ≠ (.slice Ao40 t496.length co40 : Value).ownBlock ∧ some k_ ≠ (.slice Ao43 t505.length co43 : Value).ownBlock) ∧ some k_ ≠ (.slice Ao26 t468.length co26 : Value).ownBlock) ∧ some k_ ≠ (.slice Ao29 t477.length co29 : Value).ownBlock) ∧ some k_ ≠ (.slice Ao30 t480.length co30 : Value).ownBlock)) (n := t508.length) (c := co44) ?_).2.2; exact (sm_ (Kd.S_types HO510.out BK512.out (by decide)) (fun _ h_ => h_.1))); (case side16 => exact (Kd.S_reads' HO510.out).2.1); rintro e w45 ⟨rfl, hb⟩; refine ⟨_, rfl, ?_⟩; replace HO461 := Aside0.mk (Kd.R_below (rm_ (Kd.R_types HO461.out BK512.out (by decide)) (fun _ h_ => h_.1)) hb); replace HO464 := Aside0.mk (Kd.R_below (rm_ (Kd.R_types HO464.out BK512.out (by decide)) (fun _ h_ => h_.1)) hb); replace HO467 := Aside0.mk (Kd.R_below (rm_ (Kd.R_types HO467.out BK512.out (by decide)) (fun _ h_ => h_.1)) hb); replace HO470 := Aside0.mk (Kd.S_below (sm_ (Kd.S_types HO470.out BK512.out (by decide)) (fun _ h_ => h_.1)) hb); replace HO473 := Aside0.mk (Kd.R_below (rm_ (Kd.R_types HO473.out BK512.out (by decide)) (fun _ h_ => h_.1)) hb); replace HO476 := Aside0.mk (Kd.R_below (rm_ (Kd.R_types HO476.out BK512.out (by decide)) (fun _ h_ => h_.1)) hb); replace HO479 := Aside0.mk (Kd.S_below (sm_ (Kd.S_types HO479.out BK512.out (by decide)) (fun _ h_ => h_.1)) hb); replace HO482 := Aside0.mk (Kd.S_below (sm_ (Kd.S_types HO482.out BK512.out (by decide)) (fun _ h_ => h_.1)) hb); replace HO489 := Aside0.mk (Kd.R_below (rm_ (Kd.R_types HO489.out BK512.out (by decide)) (fun _ h_ => h_.1)) hb); replace HO492 := Aside0.mk (Kd.R_below (rm_ (Kd.R_types HO492.out BK512.out (by decide)) (fun _ h_ => h_.1)) hb); replace HO495 := Aside0.mk (Kd.R_below (rm_ (Kd.R_types HO495.out BK512.out (by decide)) (fun _ h_ => h_.1)) hb); replace HO498 := Aside0.mk (Kd.S_below (sm_ (Kd.S_types HO498.out BK512.out (by decide)) (fun _ h_ => h_.1)) hb); replace HO501 := Aside0.mk (Kd.R_below (rm_ (Kd.R_types HO501.out BK512.out (by decide)) (fun _ h_ => h_.1)) hb); replace HO504 := Aside0.mk (Kd.R_below (rm_ (Kd.R_types HO504.out BK512.out (by decide)) (fun _ h_ => h_.1)) hb); replace HO507 := Aside0.mk (Kd.S_below (sm_ (Kd.S_types HO507.out BK512.out (by decide)) (fun _ h_ => h_.1)) hb); replace HO510 := Aside0.mk (Kd.S_below (sm_ (Kd.S_types HO510.out BK512.out (by decide)) (fun _ h_ => h_.1)) hb); replace BK455 := Aside0.mk (blk_below (bf_ BK455.out) hb); replace BK512 := Aside0.mk (blk_below (g := gb512) (o := .cells #[.int .i64 t485, .int .i64 t486, .slice Ao37 t487.length co37, .slice Ao38 t490.length co38, .slice Ao39 t493.length co39, .slice Ao40 t496.length co40, .slice Ao41 t499.length co41, .slice Ao42 t502.length co42, .slice Ao43 t505.length co43, .slice Ao44 t508.length co44, .int .i64 t511] 44 (0, 0)) (by (with_reducible repeat (first | refine blk_drewN ?_ _ | refine blk_drew ?_ | refine blk_alloc ?_ _)); refine blk_put (cs := #[.int .i64 t485, .int .i64 t486, .slice Ao37 t487.length co37, .slice Ao38 t490.length co38, .slice Ao39 t493.length co39, .slice Ao40 t496.length co40, .slice Ao41 t499.length co41, .slice Ao42 t502.length co42, .slice Ao43 t505.length co43, .slice Ao44 t508.length co44, .int .i64 0]) ?_ 10 _ rfl; (with_reducible repeat (first | refine blk_drewN ?_ _ | refine blk_drew ?_ | refine blk_alloc ?_ _)); refine blk_put (cs := #[.int .i64 t485, .int .i64 t486, .slice Ao37 t487.length co37, .slice Ao38 t490.length co38, .slice Ao39 t493.length co39, .slice Ao40 t496.length co40, .slice Ao41 t499.length co41, .slice Ao42 t502.length co42, .slice Ao43 t505.length co43, .slice none 0 0, .int .i64 0]) ?_ 9 _ rfl; (with_reducible repeat (first | refine blk_drewN ?_ _ | refine blk_drew ?_ | refine blk_alloc ?_ _)); refine blk_put (cs := #[.int .i64 t485, .int .i64 t486, .slice Ao37 t487.length co37, .slice Ao38 t490.length co38, .slice Ao39 t493.length co39, .slice Ao40 t496.length co40, .slice Ao41 t499.length co41, .slice Ao42 t502.length co42, .slice none 0 0, .slice none 0 0, .int .i64 0]) ?_ 8 _ rfl; (with_reducible repeat (first | refine blk_drewN ?_ _ | refine blk_drew ?_ | refine blk_alloc ?_ _)); refine blk_put (cs := #[.int .i64 t485, .int .i64 t486, .slice Ao37 t487.length co37, .slice Ao38 t490.length co38, .slice Ao39 t493.length co39, .slice Ao40 t496.length co40, .slice Ao41 t499.length co41, .slice none 0 0, .slice none 0 0, .slice none 0 0, .int .i64 0]) ?_ 7 _ rfl; (with_reducible repeat (first | refine blk_drewN ?_ _ | refine blk_drew ?_ | refine blk_alloc ?_ _)); refine blk_put (cs := #[.int .i64 t485, .int .i64 t486, .slice Ao37 t487.length co37, .slice Ao38 t490.length co38, .slice Ao39 t493.length co39, .slice Ao40 t496.length co40, .slice none 0 0, .slice none 0 0, .slice none 0 0, .slice none 0 0, .int .i64 0]) ?_ 6 _ rfl; (with_reducible repeat (first | refine blk_drewN ?_ _ | refine blk_drew ?_ | refine blk_alloc ?_ _)); refine blk_put (cs := #[.int .i64 t485, .int .i64 t486, .slice Ao37 t487.length co37, .slice Ao38 t490.length co38, .slice Ao39 t493.length co39, .slice none 0 0, .slice none 0 0, .slice none 0 0, .slice none 0 0, .slice none 0 0, .int .i64 0]) ?_ 5 _ rfl; (with_reducible repeat (first | refine blk_drewN ?_ _ | refine blk_drew ?_ | refine blk_alloc ?_ _)); refine blk_put (cs := #[.int .i64 t485, .int .i64 t486, .slice Ao37 t487.length co37, .slice Ao38 t490.length co38, .slice none 0 0, .slice none 0 0, .slice none 0 0, .slice none 0 0, .slice none 0 0, .slice none 0 0, .int .i64 0]) ?_ 4 _ rfl; (with_reducible repeat (first | refine blk_drewN ?_ _ | refine blk_drew ?_ | refine blk_alloc ?_ _)); refine blk_put (cs := #[.int .i64 t485, .int .i64 t486, .slice Ao37 t487.length co37, .slice none 0 0, .slice none 0 0, .slice none 0 0, .slice none 0 0, .slice none 0 0, .slice none 0 0, .slice none 0 0, .int .i64 0]) ?_ 3 _ rfl; (with_reducible repeat (first | refine blk_drewN ?_ _ | refine blk_drew ?_ | refine blk_alloc ?_ _)); refine blk_put (cs := #[.int .i64 t485, .int .i64 t486, .slice none 0 0, .slice none 0 0, .slice none 0 0, .slice none 0 0, .slice none 0 0, .slice none 0 0, .slice none 0 0, .slice none 0 0, .int .i64 0]) ?_ 2 _ rfl; (with_reducible repeat (first | refine blk_drewN ?_ _ | refine blk_drew ?_ | refine blk_alloc ?_ _)); refine blk_put (cs := #[.int .i64 t485, .int .i64 0, .slice none 0 0, .slice none 0 0, .slice none 0 0, .slice none 0 0, .slice none 0 0, .slice none 0 0, .slice none 0 0, .slice none 0 0, .int .i64 0]) ?_ 1 _ rfl; (with_reducible repeat (first | refine blk_drewN ?_ _ | refine blk_drew ?_ | refine blk_alloc ?_ _)); refine blk_put (cs := #[.int .i64 0, .int .i64 0, .slice none 0 0, .slice none 0 0, .slice none 0 0, .slice none 0 0, .slice none 0 0, .slice none 0 0, .slice none 0 0, .slice none 0 0, .int .i64 0]) ?_ 0 _ rfl; (with_reducible repeat (first | refine blk_drewN ?_ _ | refine blk_drew ?_ | refine blk_alloc ?_ _)); exact BK512.out) hb); replace HB := Aside0.mk (bs_ HB.out hb); (try clear hb)))
    have n0_ := Aside0.mk (Kd.R_drew HO461.out)
    have n1_ := Aside0.mk (Kd.R_drew HO464.out)
    have n2_ := Aside0.mk (Kd.R_drew HO467.out)
    have n3_ := Aside0.mk (Kd.S_drew HO470.out)
    have n4_ := Aside0.mk (Kd.R_drew HO473.out)
    have n5_ := Aside0.mk (Kd.R_drew HO476.out)
    have n6_ := Aside0.mk (Kd.S_drew HO479.out)
    have n7_ := Aside0.mk (Kd.S_drew HO482.out)
    have n8_ := Aside0.mk (Kd.R_drew HO489.out)
    have n9_ := Aside0.mk (Kd.R_drew HO492.out)
    have n10_ := Aside0.mk (Kd.R_drew HO495.out)
    have n11_ := Aside0.mk (Kd.S_drew HO498.out)
    have n12_ := Aside0.mk (Kd.R_drew HO501.out)
    have n13_ := Aside0.mk (Kd.R_drew HO504.out)
    have n14_ := Aside0.mk (Kd.S_drew HO507.out)
    have n15_ := Aside0.mk (Kd.S_drew HO510.out)
    have n16_ := Aside0.mk (blk_drew BK455.out)
    have n17_ := Aside0.mk (blk_drew BK512.out)
    have n18_ := Aside0.mk (below_drew1 HB.out)
    clear HO461
    clear HO464
    clear HO467
    clear HO470
    clear HO473
    clear HO476
    clear HO479
    clear HO482
    clear HO489
    clear HO492
    clear HO495
    clear HO498
    clear HO501
    clear HO504
    clear HO507
    clear HO510
    clear BK455
    clear BK512
    clear HB
    have HO461 := n0_
    have HO464 := n1_
    have HO467 := n2_
    have HO470 := n3_
    have HO473 := n4_
    have HO476 := n5_
    have HO479 := n6_
    have HO482 := n7_
    have HO489 := n8_
    have HO492 := n9_
    have HO495 := n10_
    have HO498 := n11_
    have HO501 := n12_
    have HO504 := n13_
    have HO507 := n14_
    have HO510 := n15_
    have BK455 := n16_
    have BK512 := n17_
    have HB := n18_
    clear n0_ n1_ n2_ n3_ n4_ n5_ n6_ n7_ n8_ n9_ n10_ n11_ n12_ n13_ n14_ n15_ n16_ n17_ n18_
    refine start_ (n := 5) (S := fun w' => w'.cell? ⟨gb512, 0, none⟩ = some (.int .i64 t485) ∧ w'.cell? ⟨gb512, 1, none⟩ = some (.int .i64 t486) ∧ w'.cell? ⟨gb512, 2, none⟩ = some (.slice Ao37 t487.length co37) ∧ w'.cell? ⟨gb512, 3, none⟩ = some (.slice Ao38 t490.length co38) ∧ w'.cell? ⟨gb512, 4, none⟩ = some (.slice Ao39 t493.length co39) ∧ w'.cell? ⟨gb512, 5, none⟩ = some (.slice Ao40 t496.length co40) ∧ w'.cell? ⟨gb512, 6, none⟩ = some (.slice Ao41 t499.length co41) ∧ w'.cell? ⟨gb512, 7, none⟩ = some (.slice Ao42 t502.length co42) ∧ w'.cell? ⟨gb512, 8, none⟩ = some (.slice Ao43 t505.length co43) ∧ w'.cell? ⟨gb512, 9, none⟩ = some (.slice Ao44 t508.length co44) ∧ w'.cell? ⟨gb512, 10, none⟩ = some (.int .i64 t511) ∧ w'.cell? ⟨gb455, 0, none⟩ = some (.int .i64 a0_0) ∧ w'.cell? ⟨gb455, 1, none⟩ = some (.int .i64 a0_1) ∧ w'.cell? ⟨gb455, 2, none⟩ = some (.slice A0_2 l0_2.length c0_2) ∧ w'.cell? ⟨gb455, 3, none⟩ = some (.slice A0_3 l0_3.length c0_3) ∧ w'.cell? ⟨gb455, 4, none⟩ = some (.slice A0_4 l0_4.length c0_4) ∧ w'.cell? ⟨gb455, 5, none⟩ = some (.slice A0_5 l0_5.length c0_5) ∧ w'.cell? ⟨gb455, 6, none⟩ = some (.slice A0_6 l0_6.length c0_6) ∧ w'.cell? ⟨gb455, 7, none⟩ = some (.slice A0_7 l0_7.length c0_7) ∧ w'.cell? ⟨gb455, 8, none⟩ = some (.slice A0_8 l0_8.length c0_8) ∧ w'.cell? ⟨gb455, 9, none⟩ = some (.slice A0_9 l0_9.length c0_9) ∧ w'.cell? ⟨gb455, 10, none⟩ = some (.int .i64 a0_10)) (ds := []) #[false, false, false, false, false] (by kernel_rfl) rfl rfl ⟨(blk_cell BK512.out 0).trans rfl, (blk_cell BK512.out 1).trans rfl, (blk_cell BK512.out 2).trans rfl, (blk_cell BK512.out 3).trans rfl, (blk_cell BK512.out 4).trans rfl, (blk_cell BK512.out 5).trans rfl, (blk_cell BK512.out 6).trans rfl, (blk_cell BK512.out 7).trans rfl, (blk_cell BK512.out 8).trans rfl, (blk_cell BK512.out 9).trans rfl, (blk_cell BK512.out 10).trans rfl, (blk_cell BK455.out 0).trans rfl, (blk_cell BK455.out 1).trans rfl, (blk_cell BK455.out 2).trans rfl, (blk_cell BK455.out 3).trans rfl, (blk_cell BK455.out 4).trans rfl, (blk_cell BK455.out 5).trans rfl, (blk_cell BK455.out 6).trans rfl, (blk_cell BK455.out 7).trans rfl, (blk_cell BK455.out 8).trans rfl, (blk_cell BK455.out 9).trans rfl, (blk_cell BK455.out 10).trans rfl⟩ (fun hHeld => ?_)
    generalize w45.drew = w46 at HO461 HO464 HO467 HO470 HO473 HO476 HO479 HO482 HO489 HO492 HO495 HO498 HO501 HO504 HO507 HO510 BK455 BK512 HB hHeld ⊢
    refine take_ (i := 0) (N := some 34) (v := ?_) (a' := ?_) (bt_ 5 1) rfl rfl (by kernel_rfl) (fun _ _ _ h => h) (Or.inl ⟨by rfl, ?_⟩) hHeld ?_ ?_
    rotate_left
    ·rintro w' ⟨s0, s1, s2, s3, s4, s5, s6, s7, s8, s9, s10, s11, s12, s13, s14, s15, s16, s17, s18, s19, s20, s21⟩
     go_simp
     with_reducible rfl
    rotate_left
    ·simp only [Act.put, List.setIfInBounds_toArray, List.set_cons_zero, List.set_cons_succ, i64_w, i32_w]
     rfl
    refine take_ (i := 1) (N := some 35) (v := ?_) (a' := ?_) (bt_ 5 3) rfl rfl (by kernel_rfl) (fun _ _ _ h => h) (Or.inl ⟨by rfl, ?_⟩) hHeld ?_ ?_
    rotate_left
    ·rintro w' ⟨s0, s1, s2, s3, s4, s5, s6, s7, s8, s9, s10, s11, s12, s13, s14, s15, s16, s17, s18, s19, s20, s21⟩
     go_simp
     with_reducible rfl
    rotate_left
    ·simp only [Act.put, List.setIfInBounds_toArray, List.set_cons_zero, List.set_cons_succ, i64_w, i32_w]
     rfl
    refine one_ (i := 2) (N := some 36) (bt_ 5 7) rfl rfl (by kernel_rfl) (by decide) (fun K hK => ?_)
    refine goes_ Try.func17 (by kernel_rfl) rfl #[.agg #[.int .i64 a0_0, .int .i64 a0_1, .slice A0_2 l0_2.length c0_2, .slice A0_3 l0_3.length c0_3, .slice A0_4 l0_4.length c0_4, .slice A0_5 l0_5.length c0_5, .slice A0_6 l0_6.length c0_6, .slice A0_7 l0_7.length c0_7, .slice A0_8 l0_8.length c0_8, .slice A0_9 l0_9.length c0_9, .int .i64 a0_10]] (by rfl) rfl rfl (by (try simp only [List.map_toArray, List.map_cons, List.map_nil]); first | done | rfl | (simp only [List.length_drop, List.length_take]; rfl)) ?_
    with_reducible refine (laws_toNet.calls k a0_0 a0_1 _ _ l0_2 _ _ l0_3 _ _ l0_4 _ _ l0_5 _ _ l0_6 _ _ l0_7 _ _ l0_8 _ _ l0_9 a0_10 t514 t515 t516 t519 t522 t525 t528 t531 t534 t537 t540 _ ?side1 ?side2 ?side3 ?side4 ?side5 ?side6 ?side7 ?side8 ?side9 ?side10 ?side11 ?side12 ?side13 ?side14 ?side15 ?side16 A15.out).mono ?_
    (case side1 => exact cb_ HR0_2.out HB.out)
    (case side2 => exact HC0_2.out)
    (case side3 => exact cb_ HR0_3.out HB.out)
    (case side4 => exact HC0_3.out)
    (case side5 => exact cb_ HR0_4.out HB.out)
    (case side6 => exact HC0_4.out)
    (case side7 => exact cb_ HR0_5.out HB.out)
    (case side8 => exact HC0_5.out)
    (case side9 => exact cb_ HR0_6.out HB.out)
    (case side10 => exact HC0_6.out)
    (case side11 => exact cb_ HR0_7.out HB.out)
    (case side12 => exact HC0_7.out)
    (case side13 => exact cb_ HR0_8.out HB.out)
    (case side14 => exact HC0_8.out)
    (case side15 => exact cb_ HR0_9.out HB.out)
    (case side16 => exact HC0_9.out)
    rintro e w47 ⟨v517, v520, v523, v526, v529, v532, v535, v538, rfl, ho0, ho1, ho2, ho3, ho4, ho5, ho6, ho7, hb⟩
    refine ⟨_, rfl, ?_⟩
    have n0_ := Aside0.mk (Kd.R_mono (Kd.R_told (Kd.R_told (Kd.R_told (Kd.R_told (Kd.R_told (Kd.R_old (ra_ HO461.out) hb) (Kd.R_base ho0)) (Kd.R_base ho1)) (Kd.R_base ho2)) (Kd.R_base ho4)) (Kd.R_base ho5)) (fun _ h_ => h_.1))
    have n1_ := Aside0.mk (Kd.R_mono (Kd.R_told (Kd.R_told (Kd.R_told (Kd.R_told (Kd.R_told (Kd.R_old (ra_ HO464.out) hb) (Kd.R_base ho0)) (Kd.R_base ho1)) (Kd.R_base ho2)) (Kd.R_base ho4)) (Kd.R_base ho5)) (fun _ h_ => h_.1))
    have n2_ := Aside0.mk (Kd.R_mono (Kd.R_told (Kd.R_told (Kd.R_told (Kd.R_told (Kd.R_told (Kd.R_old (ra_ HO467.out) hb) (Kd.R_base ho0)) (Kd.R_base ho1)) (Kd.R_base ho2)) (Kd.R_base ho4)) (Kd.R_base ho5)) (fun _ h_ => h_.1))
    have n3_ := Aside0.mk (Kd.S_mono (Kd.S_told (Kd.S_told (Kd.S_told (Kd.S_old (sa_ HO470.out) hb) (Kd.S_base ho3)) (Kd.S_base ho6)) (Kd.S_base ho7)) (fun _ h_ => h_.1))
    have n4_ := Aside0.mk (Kd.R_mono (Kd.R_told (Kd.R_told (Kd.R_told (Kd.R_told (Kd.R_told (Kd.R_old (ra_ HO473.out) hb) (Kd.R_base ho0)) (Kd.R_base ho1)) (Kd.R_base ho2)) (Kd.R_base ho4)) (Kd.R_base ho5)) (fun _ h_ => h_.1))
    have n5_ := Aside0.mk (Kd.R_mono (Kd.R_told (Kd.R_told (Kd.R_told (Kd.R_told (Kd.R_told (Kd.R_old (ra_ HO476.out) hb) (Kd.R_base ho0)) (Kd.R_base ho1)) (Kd.R_base ho2)) (Kd.R_base ho4)) (Kd.R_base ho5)) (fun _ h_ => h_.1))
    have n6_ := Aside0.mk (Kd.S_mono (Kd.S_told (Kd.S_told (Kd.S_told (Kd.S_old (sa_ HO479.out) hb) (Kd.S_base ho3)) (Kd.S_base ho6)) (Kd.S_base ho7)) (fun _ h_ => h_.1))
    have n7_ := Aside0.mk (Kd.S_mono (Kd.S_told (Kd.S_told (Kd.S_told (Kd.S_old (sa_ HO482.out) hb) (Kd.S_base ho3)) (Kd.S_base ho6)) (Kd.S_base ho7)) (fun _ h_ => h_.1))
    have n8_ := Aside0.mk (Kd.R_mono (Kd.R_told (Kd.R_told (Kd.R_told (Kd.R_told (Kd.R_told (Kd.R_old (ra_ HO489.out) hb) (Kd.R_base ho0)) (Kd.R_base ho1)) (Kd.R_base ho2)) (Kd.R_base ho4)) (Kd.R_base ho5)) (fun _ h_ => h_.1))
    have n9_ := Aside0.mk (Kd.R_mono (Kd.R_told (Kd.R_told (Kd.R_told (Kd.R_told (Kd.R_told (Kd.R_old (ra_ HO492.out) hb) (Kd.R_base ho0)) (Kd.R_base ho1)) (Kd.R_base ho2)) (Kd.R_base ho4)) (Kd.R_base ho5)) (fun _ h_ => h_.1))
    have n10_ := Aside0.mk (Kd.R_mono (Kd.R_told (Kd.R_told (Kd.R_told (Kd.R_told (Kd.R_told (Kd.R_old (ra_ HO495.out) hb) (Kd.R_base ho0)) (Kd.R_base ho1)) (Kd.R_base ho2)) (Kd.R_base ho4)) (Kd.R_base ho5)) (fun _ h_ => h_.1))
    have n11_ := Aside0.mk (Kd.S_mono (Kd.S_told (Kd.S_told (Kd.S_told (Kd.S_old (sa_ HO498.out) hb) (Kd.S_base ho3)) (Kd.S_base ho6)) (Kd.S_base ho7)) (fun _ h_ => h_.1))
    have n12_ := Aside0.mk (Kd.R_mono (Kd.R_told (Kd.R_told (Kd.R_told (Kd.R_told (Kd.R_told (Kd.R_old (ra_ HO501.out) hb) (Kd.R_base ho0)) (Kd.R_base ho1)) (Kd.R_base ho2)) (Kd.R_base ho4)) (Kd.R_base ho5)) (fun _ h_ => h_.1))
    have n13_ := Aside0.mk (Kd.R_mono (Kd.R_told (Kd.R_told (Kd.R_told (Kd.R_told (Kd.R_told (Kd.R_old (ra_ HO504.out) hb) (Kd.R_base ho0)) (Kd.R_base ho1)) (Kd.R_base ho2)) (Kd.R_base ho4)) (Kd.R_base ho5)) (fun _ h_ => h_.1))
    have n14_ := Aside0.mk (Kd.S_mono (Kd.S_told (Kd.S_told (Kd.S_told (Kd.S_old (sa_ HO507.out) hb) (Kd.S_base ho3)) (Kd.S_base ho6)) (Kd.S_base ho7)) (fun _ h_ => h_.1))
    have n15_ := Aside0.mk (Kd.S_mono (Kd.S_told (Kd.S_told (Kd.S_told (Kd.S_old (sa_ HO510.out) hb) (Kd.S_base ho3)) (Kd.S_base ho6)) (Kd.S_base ho7)) (fun _ h_ => h_.1))
    have n16_ := Aside0.mk (Kd.R_lower (Kd.R_new' (Kd.R_new' (Kd.R_new' (Kd.R_new' (Kd.R_new' (Kd.R_new' (Kd.R_new' (Kd.R_new' (Kd.R_new' (Kd.R_new' ho0 (rl_ HO461.out)) (rl_ HO464.out)) (rl_ HO467.out)) (rl_ HO473.out)) (rl_ HO476.out)) (rl_ HO489.out)) (rl_ HO492.out)) (rl_ HO495.out)) (rl_ HO501.out)) (rl_ HO504.out)) (bz_ HB.out))
    have n17_ := Aside0.mk (Kd.R_lower (Kd.R_new' (Kd.R_new' (Kd.R_new' (Kd.R_new' (Kd.R_new' (Kd.R_new' (Kd.R_new' (Kd.R_new' (Kd.R_new' (Kd.R_new' ho1 (rl_ HO461.out)) (rl_ HO464.out)) (rl_ HO467.out)) (rl_ HO473.out)) (rl_ HO476.out)) (rl_ HO489.out)) (rl_ HO492.out)) (rl_ HO495.out)) (rl_ HO501.out)) (rl_ HO504.out)) (bz_ HB.out))
    have n18_ := Aside0.mk (Kd.R_lower (Kd.R_new' (Kd.R_new' (Kd.R_new' (Kd.R_new' (Kd.R_new' (Kd.R_new' (Kd.R_new' (Kd.R_new' (Kd.R_new' (Kd.R_new' ho2 (rl_ HO461.out)) (rl_ HO464.out)) (rl_ HO467.out)) (rl_ HO473.out)) (rl_ HO476.out)) (rl_ HO489.out)) (rl_ HO492.out)) (rl_ HO495.out)) (rl_ HO501.out)) (rl_ HO504.out)) (bz_ HB.out))
    have n19_ := Aside0.mk (Kd.S_lower (Kd.S_new' (Kd.S_new' (Kd.S_new' (Kd.S_new' (Kd.S_new' (Kd.S_new' ho3 (sl_ HO470.out)) (sl_ HO479.out)) (sl_ HO482.out)) (sl_ HO498.out)) (sl_ HO507.out)) (sl_ HO510.out)) (bz_ HB.out))
    have n20_ := Aside0.mk (Kd.R_lower (Kd.R_new' (Kd.R_new' (Kd.R_new' (Kd.R_new' (Kd.R_new' (Kd.R_new' (Kd.R_new' (Kd.R_new' (Kd.R_new' (Kd.R_new' ho4 (rl_ HO461.out)) (rl_ HO464.out)) (rl_ HO467.out)) (rl_ HO473.out)) (rl_ HO476.out)) (rl_ HO489.out)) (rl_ HO492.out)) (rl_ HO495.out)) (rl_ HO501.out)) (rl_ HO504.out)) (bz_ HB.out))
    have n21_ := Aside0.mk (Kd.R_lower (Kd.R_new' (Kd.R_new' (Kd.R_new' (Kd.R_new' (Kd.R_new' (Kd.R_new' (Kd.R_new' (Kd.R_new' (Kd.R_new' (Kd.R_new' ho5 (rl_ HO461.out)) (rl_ HO464.out)) (rl_ HO467.out)) (rl_ HO473.out)) (rl_ HO476.out)) (rl_ HO489.out)) (rl_ HO492.out)) (rl_ HO495.out)) (rl_ HO501.out)) (rl_ HO504.out)) (bz_ HB.out))
    have n22_ := Aside0.mk (Kd.S_lower (Kd.S_new' (Kd.S_new' (Kd.S_new' (Kd.S_new' (Kd.S_new' (Kd.S_new' ho6 (sl_ HO470.out)) (sl_ HO479.out)) (sl_ HO482.out)) (sl_ HO498.out)) (sl_ HO507.out)) (sl_ HO510.out)) (bz_ HB.out))
    have n23_ := Aside0.mk (Kd.S_lower (Kd.S_new' (Kd.S_new' (Kd.S_new' (Kd.S_new' (Kd.S_new' (Kd.S_new' ho7 (sl_ HO470.out)) (sl_ HO479.out)) (sl_ HO482.out)) (sl_ HO498.out)) (sl_ HO507.out)) (sl_ HO510.out)) (bz_ HB.out))
    have n24_ := Aside0.mk (bk_ BK455.out hb)
    have n25_ := Aside0.mk (bk_ BK512.out hb)
    have n26_ := Aside0.mk (bs_ HB.out hb)
    clear HO461
    clear HO464
    clear HO467
    clear HO470
    clear HO473
    clear HO476
    clear HO479
    clear HO482
    clear HO489
    clear HO492
    clear HO495
    clear HO498
    clear HO501
    clear HO504
    clear HO507
    clear HO510
    clear BK455
    clear BK512
    clear HB
    have HO461 := n0_
    have HO464 := n1_
    have HO467 := n2_
    have HO470 := n3_
    have HO473 := n4_
    have HO476 := n5_
    have HO479 := n6_
    have HO482 := n7_
    have HO489 := n8_
    have HO492 := n9_
    have HO495 := n10_
    have HO498 := n11_
    have HO501 := n12_
    have HO504 := n13_
    have HO507 := n14_
    have HO510 := n15_
    have HO518 := n16_
    have HO521 := n17_
    have HO524 := n18_
    have HO527 := n19_
    have HO530 := n20_
    have HO533 := n21_
    have HO536 := n22_
    have HO539 := n23_
    have BK455 := n24_
    have BK512 := n25_
    have HB := n26_
    clear n0_ n1_ n2_ n3_ n4_ n5_ n6_ n7_ n8_ n9_ n10_ n11_ n12_ n13_ n14_ n15_ n16_ n17_ n18_ n19_ n20_ n21_ n22_ n23_ n24_ n25_ n26_
    (try clear hb)
    (try clear hb2)
    (try clear hk)
    (try clear hi)
    (try clear ho0)
    (try clear ho1)
    (try clear ho2)
    (try clear ho3)
    (try clear ho4)
    (try clear ho5)
    (try clear ho6)
    (try clear ho7)
    obtain ⟨Ao48, co48, eo48⟩ := Kd.R_slice HO518.out
    (first | subst eo48 | (injection eo48 with f1_ f2_ f3_; have f4_ := f1_.symm; have f5_ := f3_.symm; clear f1_ f2_ f3_; subst f4_; subst f5_))
    obtain ⟨Ao49, co49, eo49⟩ := Kd.R_slice HO521.out
    (first | subst eo49 | (injection eo49 with f1_ f2_ f3_; have f4_ := f1_.symm; have f5_ := f3_.symm; clear f1_ f2_ f3_; subst f4_; subst f5_))
    obtain ⟨Ao50, co50, eo50⟩ := Kd.R_slice HO524.out
    (first | subst eo50 | (injection eo50 with f1_ f2_ f3_; have f4_ := f1_.symm; have f5_ := f3_.symm; clear f1_ f2_ f3_; subst f4_; subst f5_))
    obtain ⟨Ao51, co51, eo51⟩ := Kd.S_slice HO527.out
    (first | subst eo51 | (injection eo51 with f1_ f2_ f3_; have f4_ := f1_.symm; have f5_ := f3_.symm; clear f1_ f2_ f3_; subst f4_; subst f5_))
    obtain ⟨Ao52, co52, eo52⟩ := Kd.R_slice HO530.out
    (first | subst eo52 | (injection eo52 with f1_ f2_ f3_; have f4_ := f1_.symm; have f5_ := f3_.symm; clear f1_ f2_ f3_; subst f4_; subst f5_))
    obtain ⟨Ao53, co53, eo53⟩ := Kd.R_slice HO533.out
    (first | subst eo53 | (injection eo53 with f1_ f2_ f3_; have f4_ := f1_.symm; have f5_ := f3_.symm; clear f1_ f2_ f3_; subst f4_; subst f5_))
    obtain ⟨Ao54, co54, eo54⟩ := Kd.S_slice HO536.out
    (first | subst eo54 | (injection eo54 with f1_ f2_ f3_; have f4_ := f1_.symm; have f5_ := f3_.symm; clear f1_ f2_ f3_; subst f4_; subst f5_))
    obtain ⟨Ao55, co55, eo55⟩ := Kd.S_slice HO539.out
    (first | subst eo55 | (injection eo55 with f1_ f2_ f3_; have f4_ := f1_.symm; have f5_ := f3_.symm; clear f1_ f2_ f3_; subst f4_; subst f5_))
    refine hK.out _ _ ⟨(blk_cell BK512.out 0).trans rfl, (blk_cell BK512.out 1).trans rfl, (blk_cell BK512.out 2).trans rfl, (blk_cell BK512.out 3).trans rfl, (blk_cell BK512.out 4).trans rfl, (blk_cell BK512.out 5).trans rfl, (blk_cell BK512.out 6).trans rfl, (blk_cell BK512.out 7).trans rfl, (blk_cell BK512.out 8).trans rfl, (blk_cell BK512.out 9).trans rfl, (blk_cell BK512.out 10).trans rfl, (blk_cell BK455.out 0).trans rfl, (blk_cell BK455.out 1).trans rfl, (blk_cell BK455.out 2).trans rfl, (blk_cell BK455.out 3).trans rfl, (blk_cell BK455.out 4).trans rfl, (blk_cell BK455.out 5).trans rfl, (blk_cell BK455.out 6).trans rfl, (blk_cell BK455.out 7).trans rfl, (blk_cell BK455.out 8).trans rfl, (blk_cell BK455.out 9).trans rfl, (blk_cell BK455.out 10).trans rfl⟩ (fun hHeld => ?_)
    clear hK K
    refine norm_ (a' := ?_) ?_ ?_
    rotate_left
    ·show Act.put _ (some 36) _ = _
     simp only [Act.put, List.setIfInBounds_toArray, List.set_cons_zero, List.set_cons_succ, i64_w, i32_w]
     rfl
    refine one_ (i := 3) (N := some 37) (bt_ 5 15) rfl rfl (by kernel_rfl) (by decide) (fun K hK => ?_)
    refine goes_ Try.func19 (by kernel_rfl) rfl #[.agg #[.int .i64 t485, .int .i64 t486, .slice Ao37 t487.length co37, .slice Ao38 t490.length co38, .slice Ao39 t493.length co39, .slice Ao40 t496.length co40, .slice Ao41 t499.length co41, .slice Ao42 t502.length co42, .slice Ao43 t505.length co43, .slice Ao44 t508.length co44, .int .i64 t511], .agg #[.int .i64 t514, .int .i64 t515, .slice Ao48 t516.length co48, .slice Ao49 t519.length co49, .slice Ao50 t522.length co50, .slice Ao51 t525.length co51, .slice Ao52 t528.length co52, .slice Ao53 t531.length co53, .slice Ao54 t534.length co54, .slice Ao55 t537.length co55, .int .i64 t540]] (by rfl) rfl rfl (by (try simp only [List.map_toArray, List.map_cons, List.map_nil]); first | done | rfl | (simp only [List.length_drop, List.length_take]; rfl)) ?_
    with_reducible refine (laws_eqNet.calls k t485 t486 _ _ t487 _ _ t490 _ _ t493 _ _ t496 _ _ t499 _ _ t502 _ _ t505 _ _ t508 t511 t514 t515 _ _ t516 _ _ t519 _ _ t522 _ _ t525 _ _ t528 _ _ t531 _ _ t534 _ _ t537 t540 true _ ?side1 ?side2 ?side3 ?side4 ?side5 ?side6 ?side7 ?side8 ?side9 ?side10 ?side11 ?side12 ?side13 ?side14 ?side15 ?side16 ?side17 ?side18 ?side19 ?side20 ?side21 ?side22 ?side23 ?side24 ?side25 ?side26 ?side27 ?side28 ?side29 ?side30 ?side31 ?side32 A16.out).mono ?_
    (case side1 => repeat (first | exact (Kd.R_reads' HO489.out).2.2 | (with_reducible refine Kd.C_alloc ?_ _) | (with_reducible refine Kd.C_drewN ?_ _) | (with_reducible refine Kd.C_drew ?_)))
    (case side2 => exact (Kd.R_reads' HO489.out).2.1)
    (case side3 => repeat (first | exact (Kd.R_reads' HO492.out).2.2 | (with_reducible refine Kd.C_alloc ?_ _) | (with_reducible refine Kd.C_drewN ?_ _) | (with_reducible refine Kd.C_drew ?_)))
    (case side4 => exact (Kd.R_reads' HO492.out).2.1)
    (case side5 => repeat (first | exact (Kd.R_reads' HO495.out).2.2 | (with_reducible refine Kd.C_alloc ?_ _) | (with_reducible refine Kd.C_drewN ?_ _) | (with_reducible refine Kd.C_drew ?_)))
    (case side6 => exact (Kd.R_reads' HO495.out).2.1)
    (case side7 => repeat (first | exact (Kd.S_reads' HO498.out).2.2 | (with_reducible refine Kd.C_alloc ?_ _) | (with_reducible refine Kd.C_drewN ?_ _) | (with_reducible refine Kd.C_drew ?_)))
    (case side8 => exact (Kd.S_reads' HO498.out).2.1)
    (case side9 => repeat (first | exact (Kd.R_reads' HO501.out).2.2 | (with_reducible refine Kd.C_alloc ?_ _) | (with_reducible refine Kd.C_drewN ?_ _) | (with_reducible refine Kd.C_drew ?_)))
    (case side10 => exact (Kd.R_reads' HO501.out).2.1)
    (case side11 => repeat (first | exact (Kd.R_reads' HO504.out).2.2 | (with_reducible refine Kd.C_alloc ?_ _) | (with_reducible refine Kd.C_drewN ?_ _) | (with_reducible refine Kd.C_drew ?_)))
    (case side12 => exact (Kd.R_reads' HO504.out).2.1)
    (case side13 => repeat (first | exact (Kd.S_reads' HO507.out).2.2 | (with_reducible refine Kd.C_alloc ?_ _) | (with_reducible refine Kd.C_drewN ?_ _) | (with_reducible refine Kd.C_drew ?_)))
    (case side14 => exact (Kd.S_reads' HO507.out).2.1)
    (case side15 => repeat (first | exact (Kd.S_reads' HO510.out).2.2 | (with_reducible refine Kd.C_alloc ?_ _) | (with_reducible refine Kd.C_drewN ?_ _) | (with_reducible refine Kd.C_drew ?_)))
    (case side16 => exact (Kd.S_reads' HO510.out).2.1)
    (case side17 => repeat (first | exact (Kd.R_reads' HO518.out).2.2 | (with_reducible refine Kd.C_alloc ?_ _) | (with_reducible refine Kd.C_drewN ?_ _) | (with_reducible refine Kd.C_drew ?_)))
    (case side18 => exact (Kd.R_reads' HO518.out).2.1)
    (case side19 => repeat (first | exact (Kd.R_reads' HO521.out).2.2 | (with_reducible refine Kd.C_alloc ?_ _) | (with_reducible refine Kd.C_drewN ?_ _) | (with_reducible refine Kd.C_drew ?_)))
    (case side20 => exact (Kd.R_reads' HO521.out).2.1)
    (case side21 => repeat (first | exact (Kd.R_reads' HO524.out).2.2 | (with_reducible refine Kd.C_alloc ?_ _) | (with_reducible refine Kd.C_drewN ?_ _) | (with_reducible refine Kd.C_drew ?_)))
    (case side22 => exact (Kd.R_reads' HO524.out).2.1)
    (case side23 => repeat (first | exact (Kd.S_reads' HO527.out).2.2 | (with_reducible refine Kd.C_alloc ?_ _) | (with_reducible refine Kd.C_drewN ?_ _) | (with_reducible refine Kd.C_drew ?_)))
    (case side24 => exact (Kd.S_reads' HO527.out).2.1)
    (case side25 => repeat (first | exact (Kd.R_reads' HO530.out).2.2 | (with_reducible refine Kd.C_alloc ?_ _) | (with_reducible refine Kd.C_drewN ?_ _) | (with_reducible refine Kd.C_drew ?_)))
    (case side26 => exact (Kd.R_reads' HO530.out).2.1)
    (case side27 => repeat (first | exact (Kd.R_reads' HO533.out).2.2 | (with_reducible refine Kd.C_alloc ?_ _) | (with_reducible refine Kd.C_drewN ?_ _) | (with_reducible refine Kd.C_drew ?_)))
    (case side28 => exact (Kd.R_reads' HO533.out).2.1)
    (case side29 => repeat (first | exact (Kd.S_reads' HO536.out).2.2 | (with_reducible refine Kd.C_alloc ?_ _) | (with_reducible refine Kd.C_drewN ?_ _) | (with_reducible refine Kd.C_drew ?_)))
    (case side30 => exact (Kd.S_reads' HO536.out).2.1)
    (case side31 => repeat (first | exact (Kd.S_reads' HO539.out).2.2 | (with_reducible refine Kd.C_alloc ?_ _) | (with_reducible refine Kd.C_drewN ?_ _) | (with_reducible refine Kd.C_drew ?_)))
    (case side32 => exact (Kd.S_reads' HO539.out).2.1)
    rintro e w56 ⟨rfl, hb⟩
    refine ⟨_, rfl, ?_⟩
    have n0_ := Aside0.mk (Kd.R_below (ra_ HO461.out) hb)
    have n1_ := Aside0.mk (Kd.R_below (ra_ HO464.out) hb)
    have n2_ := Aside0.mk (Kd.R_below (ra_ HO467.out) hb)
    have n3_ := Aside0.mk (Kd.S_below (sa_ HO470.out) hb)
    have n4_ := Aside0.mk (Kd.R_below (ra_ HO473.out) hb)
    have n5_ := Aside0.mk (Kd.R_below (ra_ HO476.out) hb)
    have n6_ := Aside0.mk (Kd.S_below (sa_ HO479.out) hb)
    have n7_ := Aside0.mk (Kd.S_below (sa_ HO482.out) hb)
    have n8_ := Aside0.mk (Kd.R_below (ra_ HO489.out) hb)
    have n9_ := Aside0.mk (Kd.R_below (ra_ HO492.out) hb)
    have n10_ := Aside0.mk (Kd.R_below (ra_ HO495.out) hb)
    have n11_ := Aside0.mk (Kd.S_below (sa_ HO498.out) hb)
    have n12_ := Aside0.mk (Kd.R_below (ra_ HO501.out) hb)
    have n13_ := Aside0.mk (Kd.R_below (ra_ HO504.out) hb)
    have n14_ := Aside0.mk (Kd.S_below (sa_ HO507.out) hb)
    have n15_ := Aside0.mk (Kd.S_below (sa_ HO510.out) hb)
    have n16_ := Aside0.mk (Kd.R_below (ra_ HO518.out) hb)
    have n17_ := Aside0.mk (Kd.R_below (ra_ HO521.out) hb)
    have n18_ := Aside0.mk (Kd.R_below (ra_ HO524.out) hb)
    have n19_ := Aside0.mk (Kd.S_below (sa_ HO527.out) hb)
    have n20_ := Aside0.mk (Kd.R_below (ra_ HO530.out) hb)
    have n21_ := Aside0.mk (Kd.R_below (ra_ HO533.out) hb)
    have n22_ := Aside0.mk (Kd.S_below (sa_ HO536.out) hb)
    have n23_ := Aside0.mk (Kd.S_below (sa_ HO539.out) hb)
    have n24_ := Aside0.mk (bk_ BK455.out hb)
    have n25_ := Aside0.mk (bk_ BK512.out hb)
    have n26_ := Aside0.mk (bs_ HB.out hb)
    clear HO461
    clear HO464
    clear HO467
    clear HO470
    clear HO473
    clear HO476
    clear HO479
    clear HO482
    clear HO489
    clear HO492
    clear HO495
    clear HO498
    clear HO501
    clear HO504
    clear HO507
    clear HO510
    clear HO518
    clear HO521
    clear HO524
    clear HO527
    clear HO530
    clear HO533
    clear HO536
    clear HO539
    clear BK455
    clear BK512
    clear HB
    have HO461 := n0_
    have HO464 := n1_
    have HO467 := n2_
    have HO470 := n3_
    have HO473 := n4_
    have HO476 := n5_
    have HO479 := n6_
    have HO482 := n7_
    have HO489 := n8_
    have HO492 := n9_
    have HO495 := n10_
    have HO498 := n11_
    have HO501 := n12_
    have HO504 := n13_
    have HO507 := n14_
    have HO510 := n15_
    have HO518 := n16_
    have HO521 := n17_
    have HO524 := n18_
    have HO527 := n19_
    have HO530 := n20_
    have HO533 := n21_
    have HO536 := n22_
    have HO539 := n23_
    have BK455 := n24_
    have BK512 := n25_
    have HB := n26_
    clear n0_ n1_ n2_ n3_ n4_ n5_ n6_ n7_ n8_ n9_ n10_ n11_ n12_ n13_ n14_ n15_ n16_ n17_ n18_ n19_ n20_ n21_ n22_ n23_ n24_ n25_ n26_
    (try clear hb)
    (try clear hb2)
    (try clear hk)
    (try clear hi)
    refine hK.out _ _ ⟨(blk_cell BK512.out 0).trans rfl, (blk_cell BK512.out 1).trans rfl, (blk_cell BK512.out 2).trans rfl, (blk_cell BK512.out 3).trans rfl, (blk_cell BK512.out 4).trans rfl, (blk_cell BK512.out 5).trans rfl, (blk_cell BK512.out 6).trans rfl, (blk_cell BK512.out 7).trans rfl, (blk_cell BK512.out 8).trans rfl, (blk_cell BK512.out 9).trans rfl, (blk_cell BK512.out 10).trans rfl, (blk_cell BK455.out 0).trans rfl, (blk_cell BK455.out 1).trans rfl, (blk_cell BK455.out 2).trans rfl, (blk_cell BK455.out 3).trans rfl, (blk_cell BK455.out 4).trans rfl, (blk_cell BK455.out 5).trans rfl, (blk_cell BK455.out 6).trans rfl, (blk_cell BK455.out 7).trans rfl, (blk_cell BK455.out 8).trans rfl, (blk_cell BK455.out 9).trans rfl, (blk_cell BK455.out 10).trans rfl⟩ (fun hHeld => ?_)
    clear hK K
    refine norm_ (a' := ?_) ?_ ?_
    rotate_left
    ·show Act.put _ (some 37) _ = _
     simp only [Act.put, List.setIfInBounds_toArray, List.set_cons_zero, List.set_cons_succ, i64_w, i32_w]
     rfl
    refine pure_ (i := 4) (N := some 38) (v := ?_) (a' := ?_) (bt_ 5 31) rfl rfl (by kernel_rfl) (fun _ _ _ h => h) (Or.inl ⟨by rfl, ?_⟩) ?_ ?_
    rotate_left
    ·intro w'
     go_simp
     with_reducible rfl
    rotate_left
    ·simp only [Act.put, List.setIfInBounds_toArray, List.set_cons_zero, List.set_cons_succ, i64_w, i32_w]
     rfl
    refine done_ (by kernel_rfl) ?_
    try go_wp2
    go_ret
    exact ⟨fin_, bb_ HB.out⟩
   ·replace c17 := Bool.eq_false_iff.mpr c17
    subst c17
    rw [if_neg (show ¬ (false = true) by decide)] at H
    exact absurd H (by simp)

end Go.Proofs.Ythmfjdanmbcgbaa.PFnExactIsRequest
-- thin
