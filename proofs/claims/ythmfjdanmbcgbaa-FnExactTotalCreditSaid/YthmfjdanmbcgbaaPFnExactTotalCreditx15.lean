/- Each function that the law comes to, as a plain function, with the proof that the call in the model gives what that function says (written by a program of this session out of the translation). No condition. -/
import Derived.Test.YthmfjdanmbcgbaaPFnExactTotalCreditx0
import Derived.Test.YthmfjdanmbcgbaaPFnExactTotalCreditx1
import Derived.Test.YthmfjdanmbcgbaaPFnExactTotalCreditx2
import Derived.Test.YthmfjdanmbcgbaaPFnExactTotalCreditx3
import Derived.Test.YthmfjdanmbcgbaaPFnExactTotalCreditx9
import Derived.Test.YthmfjdanmbcgbaaPFnExactTotalCreditx14
namespace Go.Proofs.Ythmfjdanmbcgbaa.PFnExactTotalCredit
open Go.RowKit Go.Proofs.YthmfjdanmbcgbaaW.PrintWords Go.Proofs.YthmfjdanmbcgbaaW.PrintLast Go.Proofs.YthmfjdanmbcgbaaW.PrintMore
attribute [local go_sem] max2_int min2_int max_two min_two max_three min_three max_four min_four   -- for this text's walks alone
set_option linter.unusedVariables false
set_option linter.unusedSimpArgs false

/-! ### laws_FnExactTotalCredit: function 9 -/
def laws_FnExactTotalCredit.f (k : Nat) (a0_0 : Int) (a0_1 : Int) (l0_2 : List Int) (l0_3 : List Int) (l0_4 : List Int) (l0_5 : List (List (S132))) (l0_6 : List Int) (l0_7 : List Int) (l0_8 : List (List (S132))) (l0_9 : List (List (S132))) (a0_10 : Int) : Option (Bool) := (laws_szNet.f k a0_0 a0_1 l0_2 l0_3 l0_4 l0_5 l0_6 l0_7 l0_8 l0_9 a0_10 1048576).bind fun t444 => (if t444 < 0 then (some true) else ((laws_toNet.f k a0_0 a0_1 l0_2 l0_3 l0_4 l0_5 l0_6 l0_7 l0_8 l0_9 a0_10).bind fun bt445 => ((spec_TotalCredit.f k bt445.1 bt445.2.1 bt445.2.2.1 bt445.2.2.2.1 bt445.2.2.2.2.1 bt445.2.2.2.2.2.1 bt445.2.2.2.2.2.2.1 bt445.2.2.2.2.2.2.2.1 bt445.2.2.2.2.2.2.2.2.1 bt445.2.2.2.2.2.2.2.2.2.1 bt445.2.2.2.2.2.2.2.2.2.2).bind fun t472 => ((laws_toNet.f k a0_0 a0_1 l0_2 l0_3 l0_4 l0_5 l0_6 l0_7 l0_8 l0_9 a0_10).bind fun bt473 => ((impl_TotalCredit.f k bt473.1 bt473.2.1 bt473.2.2.1 bt473.2.2.2.1 bt473.2.2.2.2.1 bt473.2.2.2.2.2.1 bt473.2.2.2.2.2.2.1 bt473.2.2.2.2.2.2.2.1 bt473.2.2.2.2.2.2.2.2.1 bt473.2.2.2.2.2.2.2.2.2.1 bt473.2.2.2.2.2.2.2.2.2.2).bind fun t501 => (if t501 = t472 then ((laws_toNet.f k a0_0 a0_1 l0_2 l0_3 l0_4 l0_5 l0_6 l0_7 l0_8 l0_9 a0_10).bind fun bt502 => ((laws_eqNet.f k bt473.1 bt473.2.1 bt473.2.2.1 bt473.2.2.2.1 bt473.2.2.2.2.1 bt473.2.2.2.2.2.1 bt473.2.2.2.2.2.2.1 bt473.2.2.2.2.2.2.2.1 bt473.2.2.2.2.2.2.2.2.1 bt473.2.2.2.2.2.2.2.2.2.1 bt473.2.2.2.2.2.2.2.2.2.2 bt502.1 bt502.2.1 bt502.2.2.1 bt502.2.2.2.1 bt502.2.2.2.2.1 bt502.2.2.2.2.2.1 bt502.2.2.2.2.2.2.1 bt502.2.2.2.2.2.2.2.1 bt502.2.2.2.2.2.2.2.2.1 bt502.2.2.2.2.2.2.2.2.2.1 bt502.2.2.2.2.2.2.2.2.2.2).bind fun t529 => (if t529 = true then (some true) else (none)))) else (none)))))))
theorem laws_FnExactTotalCredit.mono : ∀ a0 a1 a2 a3 a4 a5 a6 a7 a8 a9 a10 k, LeO (laws_FnExactTotalCredit.f k a0 a1 a2 a3 a4 a5 a6 a7 a8 a9 a10) (laws_FnExactTotalCredit.f (k + 1) a0 a1 a2 a3 a4 a5 a6 a7 a8 a9 a10) := by
 intro a0 a1 a2 a3 a4 a5 a6 a7 a8 a9 a10 k
 unfold laws_FnExactTotalCredit.f
 repeat' first
   | (with_reducible exact impl_TotalCredit.mono _ _ _ _ _ _ _ _ _ _ _ _)
   | (with_reducible exact laws_eqNet.mono _ _ _ _ _ _ _ _ _ _ _ _ _ _ _ _ _ _ _ _ _ _ _)
   | (with_reducible exact laws_szNet.mono _ _ _ _ _ _ _ _ _ _ _ _ _)
   | (with_reducible exact laws_toNet.mono _ _ _ _ _ _ _ _ _ _ _ _)
   | (with_reducible exact spec_TotalCredit.mono _ _ _ _ _ _ _ _ _ _ _ _)
   | (with_reducible exact LeO.refl _)
   | (with_reducible exact LeO.none _)
   | (with_reducible refine LeO.ite ?_ ?_)
   | (with_reducible refine LeO.bind ?_ (fun _ => ?_))
   | exact impl_TotalCredit.mono _ _ _ _ _ _ _ _ _ _ _ _
   | exact laws_eqNet.mono _ _ _ _ _ _ _ _ _ _ _ _ _ _ _ _ _ _ _ _ _ _ _
   | exact laws_szNet.mono _ _ _ _ _ _ _ _ _ _ _ _ _
   | exact laws_toNet.mono _ _ _ _ _ _ _ _ _ _ _ _
   | exact spec_TotalCredit.mono _ _ _ _ _ _ _ _ _ _ _ _
   | exact LeO.none _
   | refine LeO.ite ?_ ?_
   | refine LeO.bind ?_ (fun _ => ?_)
set_option maxHeartbeats 8000000 in
set_option maxRecDepth 100000 in
theorem laws_FnExactTotalCredit.calls (k : Nat) (a0_0 : Int) (a0_1 : Int) (A0_2 : Option Addr) (c0_2 : Nat) (l0_2 : List Int) (A0_3 : Option Addr) (c0_3 : Nat) (l0_3 : List Int) (A0_4 : Option Addr) (c0_4 : Nat) (l0_4 : List Int) (A0_5 : Option Addr) (c0_5 : Nat) (l0_5 : List (List (S132))) (A0_6 : Option Addr) (c0_6 : Nat) (l0_6 : List Int) (A0_7 : Option Addr) (c0_7 : Nat) (l0_7 : List Int) (A0_8 : Option Addr) (c0_8 : Nat) (l0_8 : List (List (S132))) (A0_9 : Option Addr) (c0_9 : Nat) (l0_9 : List (List (S132))) (a0_10 : Int) (r : Bool) (w : World) (hr0_2 : Kd.C (Kd.int .i64) w A0_2 l0_2.length l0_2) (hc0_2 : l0_2.length ≤ c0_2) (hr0_3 : Kd.C (Kd.int .i64) w A0_3 l0_3.length l0_3) (hc0_3 : l0_3.length ≤ c0_3) (hr0_4 : Kd.C (Kd.int .i64) w A0_4 l0_4.length l0_4) (hc0_4 : l0_4.length ≤ c0_4) (hr0_5 : Kd.C (Kd.slice 132 k132) w A0_5 l0_5.length l0_5) (hc0_5 : l0_5.length ≤ c0_5) (hr0_6 : Kd.C (Kd.int .i64) w A0_6 l0_6.length l0_6) (hc0_6 : l0_6.length ≤ c0_6) (hr0_7 : Kd.C (Kd.int .i64) w A0_7 l0_7.length l0_7) (hc0_7 : l0_7.length ≤ c0_7) (hr0_8 : Kd.C (Kd.slice 132 k132) w A0_8 l0_8.length l0_8) (hc0_8 : l0_8.length ≤ c0_8) (hr0_9 : Kd.C (Kd.slice 132 k132) w A0_9 l0_9.length l0_9) (hc0_9 : l0_9.length ≤ c0_9) (h : laws_FnExactTotalCredit.f k a0_0 a0_1 l0_2 l0_3 l0_4 l0_5 l0_6 l0_7 l0_8 l0_9 a0_10 = some r) :
  Calls Try.prog 9 #[.agg #[.int .i64 a0_0, .int .i64 a0_1, .slice A0_2 l0_2.length c0_2, .slice A0_3 l0_3.length c0_3, .slice A0_4 l0_4.length c0_4, .slice A0_5 l0_5.length c0_5, .slice A0_6 l0_6.length c0_6, .slice A0_7 l0_7.length c0_7, .slice A0_8 l0_8.length c0_8, .slice A0_9 l0_9.length c0_9, .int .i64 a0_10]] w fun e w' => e = .returned (.bool r) ∧ Below w.heap.size w w' := by
 have hu33 := Try.underlying33
 have hu44 := Try.underlying44
 have HR0_2 := Aside0.mk hr0_2
 have HC0_2 := Aside0.mk hc0_2
 clear hr0_2 hc0_2
 have HR0_3 := Aside0.mk hr0_3
 have HC0_3 := Aside0.mk hc0_3
 clear hr0_3 hc0_3
 have HR0_4 := Aside0.mk hr0_4
 have HC0_4 := Aside0.mk hc0_4
 clear hr0_4 hc0_4
 have HR0_5 := Aside0.mk hr0_5
 have HC0_5 := Aside0.mk hc0_5
 clear hr0_5 hc0_5
 have HR0_6 := Aside0.mk hr0_6
 have HC0_6 := Aside0.mk hc0_6
 clear hr0_6 hc0_6
 have HR0_7 := Aside0.mk hr0_7
 have HC0_7 := Aside0.mk hc0_7
 clear hr0_7 hc0_7
 have HR0_8 := Aside0.mk hr0_8
 have HC0_8 := Aside0.mk hc0_8
 clear hr0_8 hc0_8
 have HR0_9 := Aside0.mk hr0_9
 have HC0_9 := Aside0.mk hc0_9
 clear hr0_9 hc0_9
 have HB := Aside0.mk (Below.refl w.heap.size w)
 have H : ((laws_szNet.f k a0_0 a0_1 l0_2 l0_3 l0_4 l0_5 l0_6 l0_7 l0_8 l0_9 a0_10 1048576).bind fun t444 => (if t444 < 0 then (some true) else ((laws_toNet.f k a0_0 a0_1 l0_2 l0_3 l0_4 l0_5 l0_6 l0_7 l0_8 l0_9 a0_10).bind fun bt445 => ((spec_TotalCredit.f k bt445.1 bt445.2.1 bt445.2.2.1 bt445.2.2.2.1 bt445.2.2.2.2.1 bt445.2.2.2.2.2.1 bt445.2.2.2.2.2.2.1 bt445.2.2.2.2.2.2.2.1 bt445.2.2.2.2.2.2.2.2.1 bt445.2.2.2.2.2.2.2.2.2.1 bt445.2.2.2.2.2.2.2.2.2.2).bind fun t472 => ((laws_toNet.f k a0_0 a0_1 l0_2 l0_3 l0_4 l0_5 l0_6 l0_7 l0_8 l0_9 a0_10).bind fun bt473 => ((impl_TotalCredit.f k bt473.1 bt473.2.1 bt473.2.2.1 bt473.2.2.2.1 bt473.2.2.2.2.1 bt473.2.2.2.2.2.1 bt473.2.2.2.2.2.2.1 bt473.2.2.2.2.2.2.2.1 bt473.2.2.2.2.2.2.2.2.1 bt473.2.2.2.2.2.2.2.2.2.1 bt473.2.2.2.2.2.2.2.2.2.2).bind fun t501 => (if t501 = t472 then ((laws_toNet.f k a0_0 a0_1 l0_2 l0_3 l0_4 l0_5 l0_6 l0_7 l0_8 l0_9 a0_10).bind fun bt502 => ((laws_eqNet.f k bt473.1 bt473.2.1 bt473.2.2.1 bt473.2.2.2.1 bt473.2.2.2.2.1 bt473.2.2.2.2.2.1 bt473.2.2.2.2.2.2.1 bt473.2.2.2.2.2.2.2.1 bt473.2.2.2.2.2.2.2.2.1 bt473.2.2.2.2.2.2.2.2.2.1 bt473.2.2.2.2.2.2.2.2.2.2 bt502.1 bt502.2.1 bt502.2.2.1 bt502.2.2.2.1 bt502.2.2.2.2.1 bt502.2.2.2.2.2.1 bt502.2.2.2.2.2.2.1 bt502.2.2.2.2.2.2.2.1 bt502.2.2.2.2.2.2.2.2.1 bt502.2.2.2.2.2.2.2.2.2.1 bt502.2.2.2.2.2.2.2.2.2.2).bind fun t529 => (if t529 = true then (some true) else (none)))) else (none)))))))) = some r := h
 clear h
 replace H := Option.bind_eq_some_iff.mp H
 obtain ⟨t444, A20, H⟩ := H
 try dsimp only at H
 have A2 := Aside0.mk A20
 clear A20
 by_cases c3 : t444 < 0
 ·rw [if_pos c3] at H
  have c3b0 : decide (t444 < 0) = true := decide_eq_true c3
  clear c3
  obtain rfl := Option.some.inj H
  go_enter Try.func9, Try.ntmps9
  go_wp2_with (first | ((with_reducible refine gate_dst (N := 1) rfl ?_); refine box_event ?hg (N := 1) ?hd (cs := #[.int .i64 a0_0, .int .i64 a0_1, .slice A0_2 l0_2.length c0_2, .slice A0_3 l0_3.length c0_3, .slice A0_4 l0_4.length c0_4, .slice A0_5 l0_5.length c0_5, .slice A0_6 l0_6.length c0_6, .slice A0_7 l0_7.length c0_7, .slice A0_8 l0_8.length c0_8, .slice A0_9 l0_9.length c0_9, .int .i64 a0_10]) (t := 33) ?hr ?_; (case hd => rfl); (case hg => rfl); (case hr => first | (go_simp; done) | (go_simp; rfl)); intro gb443 hg w4 hbox hb; have BK443 := Aside0.mk (hbox); have GW443 := Aside0.mk ((by rw [hg]; exact (bz_ HB.out) : w.heap.size ≤ gb443)); have GE443 := Aside0.mk ((by rw [hg]; exact (bz_ HB.out) : w.heap.size ≤ gb443)); replace HB := Aside0.mk (bs_ HB.out hb); clear hb hbox hg; obtain ⟨hcz5_0, hcz5_1, hcz5_2, hcz5_3, hcz5_4, hcz5_5, hcz5_6, hcz5_7, hcz5_8, hcz5_9, hcz5_10, hfz5_0, hfz5_1, hfz5_2, hfz5_3, hfz5_4, hfz5_5, hfz5_6, hfz5_7, hfz5_8, hfz5_9, hfz5_10⟩ := cz11_ BK443.out) | ((with_reducible refine gate_callee (f := 15) rfl ?_); refine gm_ (some 9) Try.func15 #[.agg #[.int .i64 a0_0, .int .i64 a0_1, .slice A0_2 l0_2.length c0_2, .slice A0_3 l0_3.length c0_3, .slice A0_4 l0_4.length c0_4, .slice A0_5 l0_5.length c0_5, .slice A0_6 l0_6.length c0_6, .slice A0_7 l0_7.length c0_7, .slice A0_8 l0_8.length c0_8, .slice A0_9 l0_9.length c0_9, .int .i64 a0_10], .int .i64 1048576] rfl ?_; (with_reducible refine (laws_szNet.calls k a0_0 a0_1 _ _ l0_2 _ _ l0_3 _ _ l0_4 _ _ l0_5 _ _ l0_6 _ _ l0_7 _ _ l0_8 _ _ l0_9 a0_10 1048576 t444 _ ?side1 HC0_2.out ?side3 HC0_3.out ?side5 HC0_4.out ?side7 HC0_5.out ?side9 HC0_6.out ?side11 HC0_7.out ?side13 HC0_8.out ?side15 HC0_9.out A2.out).mono ?_); (case side1 => exact cb_ HR0_2.out HB.out); (case side3 => exact cb_ HR0_3.out HB.out); (case side5 => exact cb_ HR0_4.out HB.out); (case side7 => exact cb_ HR0_5.out HB.out); (case side9 => exact cb_ HR0_6.out HB.out); (case side11 => exact cb_ HR0_7.out HB.out); (case side13 => exact cb_ HR0_8.out HB.out); (case side15 => exact cb_ HR0_9.out HB.out); rintro e w6 ⟨rfl, hb⟩; refine ⟨_, rfl, ?_⟩; replace BK443 := Aside0.mk (bk_ BK443.out hb); replace HB := Aside0.mk (bs_ HB.out hb); (try clear hb)))
  go_ret
  exact ⟨fin_, bb_ HB.out⟩
 ·rw [if_neg c3] at H
  have c3b0 : decide (t444 < 0) = false := decide_eq_false c3
  clear c3
  replace H := Option.bind_eq_some_iff.mp H
  obtain ⟨⟨t445, t446, t447, t450, t453, t456, t459, t462, t465, t468, t471⟩, A70, H⟩ := H
  try dsimp only at H
  have A7 := Aside0.mk A70
  clear A70
  replace H := Option.bind_eq_some_iff.mp H
  obtain ⟨t472, A80, H⟩ := H
  try dsimp only at H
  have A8 := Aside0.mk A80
  clear A80
  replace H := Option.bind_eq_some_iff.mp H
  obtain ⟨⟨t473, t474, t475, t478, t481, t484, t487, t490, t493, t496, t499⟩, A90, H⟩ := H
  try dsimp only at H
  have A9 := Aside0.mk A90
  clear A90
  replace H := Option.bind_eq_some_iff.mp H
  obtain ⟨t501, A100, H⟩ := H
  try dsimp only at H
  have A10 := Aside0.mk A100
  clear A100
  by_cases c11 : t501 = t472
  ·rw [if_pos c11] at H
   have c11b0 : (t501 == t472) = true := beq_iff_eq.mpr c11
   have c11b1 : (t501 != t472) = false := bne_eq_false_iff_eq.mpr c11
   clear c11
   replace H := Option.bind_eq_some_iff.mp H
   obtain ⟨⟨t502, t503, t504, t507, t510, t513, t516, t519, t522, t525, t528⟩, A120, H⟩ := H
   try dsimp only at H
   have A12 := Aside0.mk A120
   clear A120
   replace H := Option.bind_eq_some_iff.mp H
   obtain ⟨t529, A130, H⟩ := H
   try dsimp only at H
   have A13 := Aside0.mk A130
   clear A130
   by_cases c14 : t529 = true
   ·subst c14
    rw [if_pos rfl] at H
    obtain rfl := Option.some.inj H
    go_enter Try.func9, Try.ntmps9
    try go_wp2_with (first | ((with_reducible refine gate_dst (N := 1) rfl ?_); refine box_event ?hg (N := 1) ?hd (cs := #[.int .i64 a0_0, .int .i64 a0_1, .slice A0_2 l0_2.length c0_2, .slice A0_3 l0_3.length c0_3, .slice A0_4 l0_4.length c0_4, .slice A0_5 l0_5.length c0_5, .slice A0_6 l0_6.length c0_6, .slice A0_7 l0_7.length c0_7, .slice A0_8 l0_8.length c0_8, .slice A0_9 l0_9.length c0_9, .int .i64 a0_10]) (t := 33) ?hr ?_; (case hd => rfl); (case hg => rfl); (case hr => first | (go_simp; done) | (go_simp; rfl)); intro gb443 hg w15 hbox hb; have BK443 := Aside0.mk (hbox); have GW443 := Aside0.mk ((by rw [hg]; exact (bz_ HB.out) : w.heap.size ≤ gb443)); have GE443 := Aside0.mk ((by rw [hg]; exact (bz_ HB.out) : w.heap.size ≤ gb443)); replace HB := Aside0.mk (bs_ HB.out hb); clear hb hbox hg; obtain ⟨hcz16_0, hcz16_1, hcz16_2, hcz16_3, hcz16_4, hcz16_5, hcz16_6, hcz16_7, hcz16_8, hcz16_9, hcz16_10, hfz16_0, hfz16_1, hfz16_2, hfz16_3, hfz16_4, hfz16_5, hfz16_6, hfz16_7, hfz16_8, hfz16_9, hfz16_10⟩ := cz11_ BK443.out) | ((with_reducible refine gate_callee (f := 15) rfl ?_); refine gm_ (some 9) Try.func15 #[.agg #[.int .i64 a0_0, .int .i64 a0_1, .slice A0_2 l0_2.length c0_2, .slice A0_3 l0_3.length c0_3, .slice A0_4 l0_4.length c0_4, .slice A0_5 l0_5.length c0_5, .slice A0_6 l0_6.length c0_6, .slice A0_7 l0_7.length c0_7, .slice A0_8 l0_8.length c0_8, .slice A0_9 l0_9.length c0_9, .int .i64 a0_10], .int .i64 1048576] rfl ?_; (with_reducible refine (laws_szNet.calls k a0_0 a0_1 _ _ l0_2 _ _ l0_3 _ _ l0_4 _ _ l0_5 _ _ l0_6 _ _ l0_7 _ _ l0_8 _ _ l0_9 a0_10 1048576 t444 _ ?side1 HC0_2.out ?side3 HC0_3.out ?side5 HC0_4.out ?side7 HC0_5.out ?side9 HC0_6.out ?side11 HC0_7.out ?side13 HC0_8.out ?side15 HC0_9.out A2.out).mono ?_); (case side1 => exact cb_ HR0_2.out HB.out); (case side3 => exact cb_ HR0_3.out HB.out); (case side5 => exact cb_ HR0_4.out HB.out); (case side7 => exact cb_ HR0_5.out HB.out); (case side9 => exact cb_ HR0_6.out HB.out); (case side11 => exact cb_ HR0_7.out HB.out); (case side13 => exact cb_ HR0_8.out HB.out); (case side15 => exact cb_ HR0_9.out HB.out); rintro e w17 ⟨rfl, hb⟩; refine ⟨_, rfl, ?_⟩; replace BK443 := Aside0.mk (bk_ BK443.out hb); replace HB := Aside0.mk (bs_ HB.out hb); (try clear hb); obtain ⟨hcz18_0, hcz18_1, hcz18_2, hcz18_3, hcz18_4, hcz18_5, hcz18_6, hcz18_7, hcz18_8, hcz18_9, hcz18_10, hfz18_0, hfz18_1, hfz18_2, hfz18_3, hfz18_4, hfz18_5, hfz18_6, hfz18_7, hfz18_8, hfz18_9, hfz18_10⟩ := cz11_ BK443.out) | ((with_reducible refine gate_callee (f := 17) rfl ?_); refine gm_ (some 13) Try.func17 #[.agg #[.int .i64 a0_0, .int .i64 a0_1, .slice A0_2 l0_2.length c0_2, .slice A0_3 l0_3.length c0_3, .slice A0_4 l0_4.length c0_4, .slice A0_5 l0_5.length c0_5, .slice A0_6 l0_6.length c0_6, .slice A0_7 l0_7.length c0_7, .slice A0_8 l0_8.length c0_8, .slice A0_9 l0_9.length c0_9, .int .i64 a0_10]] rfl ?_; (with_reducible refine (laws_toNet.calls k a0_0 a0_1 _ _ l0_2 _ _ l0_3 _ _ l0_4 _ _ l0_5 _ _ l0_6 _ _ l0_7 _ _ l0_8 _ _ l0_9 a0_10 t445 t446 t447 t450 t453 t456 t459 t462 t465 t468 t471 _ ?side1 HC0_2.out ?side3 HC0_3.out ?side5 HC0_4.out ?side7 HC0_5.out ?side9 HC0_6.out ?side11 HC0_7.out ?side13 HC0_8.out ?side15 HC0_9.out A7.out).mono ?_); (case side1 => exact cb_ HR0_2.out HB.out); (case side3 => exact cb_ HR0_3.out HB.out); (case side5 => exact cb_ HR0_4.out HB.out); (case side7 => exact cb_ HR0_5.out HB.out); (case side9 => exact cb_ HR0_6.out HB.out); (case side11 => exact cb_ HR0_7.out HB.out); (case side13 => exact cb_ HR0_8.out HB.out); (case side15 => exact cb_ HR0_9.out HB.out); rintro e w19 ⟨v448, v451, v454, v457, v460, v463, v466, v469, rfl, ho0, ho1, ho2, ho3, ho4, ho5, ho6, ho7, hb⟩; refine ⟨_, rfl, ?_⟩; have HO449 := Aside0.mk (Kd.R_lower ho0 (bz_ HB.out)); have HO452 := Aside0.mk (Kd.R_lower ho1 (bz_ HB.out)); have HO455 := Aside0.mk (Kd.R_lower ho2 (bz_ HB.out)); have HO458 := Aside0.mk (Kd.S_lower ho3 (bz_ HB.out)); have HO461 := Aside0.mk (Kd.R_lower ho4 (bz_ HB.out)); have HO464 := Aside0.mk (Kd.R_lower ho5 (bz_ HB.out)); have HO467 := Aside0.mk (Kd.S_lower ho6 (bz_ HB.out)); have HO470 := Aside0.mk (Kd.S_lower ho7 (bz_ HB.out)); replace BK443 := Aside0.mk (bk_ BK443.out hb); replace HB := Aside0.mk (bs_ HB.out hb); (try clear hb); (try clear ho0); (try clear ho1); (try clear ho2); (try clear ho3); (try clear ho4); (try clear ho5); (try clear ho6); (try clear ho7); obtain ⟨Ao20, co20, eo20⟩ := Kd.R_slice HO449.out; subst eo20; obtain ⟨Ao21, co21, eo21⟩ := Kd.R_slice HO452.out; subst eo21; obtain ⟨Ao22, co22, eo22⟩ := Kd.R_slice HO455.out; subst eo22; obtain ⟨Ao23, co23, eo23⟩ := Kd.S_slice HO458.out; subst eo23; obtain ⟨Ao24, co24, eo24⟩ := Kd.R_slice HO461.out; subst eo24; obtain ⟨Ao25, co25, eo25⟩ := Kd.R_slice HO464.out; subst eo25; obtain ⟨Ao26, co26, eo26⟩ := Kd.S_slice HO467.out; subst eo26; obtain ⟨Ao27, co27, eo27⟩ := Kd.S_slice HO470.out; subst eo27) | ((with_reducible refine gate_callee (f := 30) rfl ?_); refine gm_ (some 14) Try.func30 #[.agg #[.int .i64 t445, .int .i64 t446, .slice Ao20 t447.length co20, .slice Ao21 t450.length co21, .slice Ao22 t453.length co22, .slice Ao23 t456.length co23, .slice Ao24 t459.length co24, .slice Ao25 t462.length co25, .slice Ao26 t465.length co26, .slice Ao27 t468.length co27, .int .i64 t471]] rfl ?_; (with_reducible refine (spec_TotalCredit.calls k t445 t446 _ _ t447 _ _ t450 _ _ t453 _ _ t456 _ _ t459 _ _ t462 _ _ t465 _ _ t468 t471 t472 _ ?side1 ?side2 ?side3 ?side4 ?side5 ?side6 ?side7 ?side8 ?side9 ?side10 ?side11 ?side12 ?side13 ?side14 ?side15 ?side16 A8.out).mono ?_); (case side1 => repeat (first | exact (Kd.R_reads' HO449.out).2.2 | (with_reducible refine Kd.C_alloc ?_ _) | (with_reducible refine Kd.C_drewN ?_ _) | (with_reducible refine Kd.C_drew ?_))); (case side2 => exact (Kd.R_reads' HO449.out).2.1); (case side3 => repeat (first | exact (Kd.R_reads' HO452.out).2.2 | (with_reducible refine Kd.C_alloc ?_ _) | (with_reducible refine Kd.C_drewN ?_ _) | (with_reducible refine Kd.C_drew ?_))); (case side4 => exact (Kd.R_reads' HO452.out).2.1); (case side5 => repeat (first | exact (Kd.R_reads' HO455.out).2.2 | (with_reducible refine Kd.C_alloc ?_ _) | (with_reducible refine Kd.C_drewN ?_ _) | (with_reducible refine Kd.C_drew ?_))); (case side6 => exact (Kd.R_reads' HO455.out).2.1); (case side7 => repeat (first | exact (Kd.S_reads' HO458.out).2.2 | (with_reducible refine Kd.C_alloc ?_ _) | (with_reducible refine Kd.C_drewN ?_ _) | (with_reducible refine Kd.C_drew ?_))); (case side8 => exact (Kd.S_reads' HO458.out).2.1); (case side9 => repeat (first | exact (Kd.R_reads' HO461.out).2.2 | (with_reducible refine Kd.C_alloc ?_ _) | (with_reducible refine Kd.C_drewN ?_ _) | (with_reducible refine Kd.C_drew ?_))); (case side10 => exact (Kd.R_reads' HO461.out).2.1); (case side11 => repeat (first | exact (Kd.R_reads' HO464.out).2.2 | (with_reducible refine Kd.C_alloc ?_ _) | (with_reducible refine Kd.C_drewN ?_ _) | (with_reducible refine Kd.C_drew ?_))); (case side12 => exact (Kd.R_reads' HO464.out).2.1); (case side13 => repeat (first | exact (Kd.S_reads' HO467.out).2.2 | (with_reducible refine Kd.C_alloc ?_ _) | (with_reducible refine Kd.C_drewN ?_ _) | (with_reducible refine Kd.C_drew ?_))); (case side14 => exact (Kd.S_reads' HO467.out).2.1); (case side15 => repeat (first | exact (Kd.S_reads' HO470.out).2.2 | (with_reducible refine Kd.C_alloc ?_ _) | (with_reducible refine Kd.C_drewN ?_ _) | (with_reducible refine Kd.C_drew ?_))); (case side16 => exact (Kd.S_reads' HO470.out).2.1); rintro e w28 ⟨rfl, hb⟩; refine ⟨_, rfl, ?_⟩; replace HO449 := Aside0.mk (Kd.R_below (ra_ HO449.out) hb); replace HO452 := Aside0.mk (Kd.R_below (ra_ HO452.out) hb); replace HO455 := Aside0.mk (Kd.R_below (ra_ HO455.out) hb); replace HO458 := Aside0.mk (Kd.S_below (sa_ HO458.out) hb); replace HO461 := Aside0.mk (Kd.R_below (ra_ HO461.out) hb); replace HO464 := Aside0.mk (Kd.R_below (ra_ HO464.out) hb); replace HO467 := Aside0.mk (Kd.S_below (sa_ HO467.out) hb); replace HO470 := Aside0.mk (Kd.S_below (sa_ HO470.out) hb); replace BK443 := Aside0.mk (bk_ BK443.out hb); replace HB := Aside0.mk (bs_ HB.out hb); (try clear hb); obtain ⟨hcz29_0, hcz29_1, hcz29_2, hcz29_3, hcz29_4, hcz29_5, hcz29_6, hcz29_7, hcz29_8, hcz29_9, hcz29_10, hfz29_0, hfz29_1, hfz29_2, hfz29_3, hfz29_4, hfz29_5, hfz29_6, hfz29_7, hfz29_8, hfz29_9, hfz29_10⟩ := cz11_ BK443.out) | ((with_reducible refine gate_callee (f := 17) rfl ?_); refine gm_ (some 16) Try.func17 #[.agg #[.int .i64 a0_0, .int .i64 a0_1, .slice A0_2 l0_2.length c0_2, .slice A0_3 l0_3.length c0_3, .slice A0_4 l0_4.length c0_4, .slice A0_5 l0_5.length c0_5, .slice A0_6 l0_6.length c0_6, .slice A0_7 l0_7.length c0_7, .slice A0_8 l0_8.length c0_8, .slice A0_9 l0_9.length c0_9, .int .i64 a0_10]] rfl ?_; (with_reducible refine (laws_toNet.calls k a0_0 a0_1 _ _ l0_2 _ _ l0_3 _ _ l0_4 _ _ l0_5 _ _ l0_6 _ _ l0_7 _ _ l0_8 _ _ l0_9 a0_10 t473 t474 t475 t478 t481 t484 t487 t490 t493 t496 t499 _ ?side1 HC0_2.out ?side3 HC0_3.out ?side5 HC0_4.out ?side7 HC0_5.out ?side9 HC0_6.out ?side11 HC0_7.out ?side13 HC0_8.out ?side15 HC0_9.out A9.out).mono ?_); (case side1 => exact cb_ HR0_2.out HB.out); (case side3 => exact cb_ HR0_3.out HB.out); (case side5 => exact cb_ HR0_4.out HB.out); (case side7 => exact cb_ HR0_5.out HB.out); (case side9 => exact cb_ HR0_6.out HB.out); (case side11 => exact cb_ HR0_7.out HB.out); (case side13 => exact cb_ HR0_8.out HB.out); (case side15 => exact cb_ HR0_9.out HB.out); rintro e w30 ⟨v476, v479, v482, v485, v488, v491, v494, v497, rfl, ho0, ho1, ho2, ho3, ho4, ho5, ho6, ho7, hb⟩; refine ⟨_, rfl, ?_⟩; have HO477 := Aside0.mk (Kd.R_lower (Kd.R_new' (Kd.R_new' (Kd.R_new' (Kd.R_new' (Kd.R_new' ho0 (rl_ HO449.out)) (rl_ HO452.out)) (rl_ HO455.out)) (rl_ HO461.out)) (rl_ HO464.out)) (bz_ HB.out)); have HO480 := Aside0.mk (Kd.R_lower (Kd.R_new' (Kd.R_new' (Kd.R_new' (Kd.R_new' (Kd.R_new' ho1 (rl_ HO449.out)) (rl_ HO452.out)) (rl_ HO455.out)) (rl_ HO461.out)) (rl_ HO464.out)) (bz_ HB.out)); have HO483 := Aside0.mk (Kd.R_lower (Kd.R_new' (Kd.R_new' (Kd.R_new' (Kd.R_new' (Kd.R_new' ho2 (rl_ HO449.out)) (rl_ HO452.out)) (rl_ HO455.out)) (rl_ HO461.out)) (rl_ HO464.out)) (bz_ HB.out)); have HO486 := Aside0.mk (Kd.S_lower (Kd.S_new' (Kd.S_new' (Kd.S_new' ho3 (sl_ HO458.out)) (sl_ HO467.out)) (sl_ HO470.out)) (bz_ HB.out)); have HO489 := Aside0.mk (Kd.R_lower (Kd.R_new' (Kd.R_new' (Kd.R_new' (Kd.R_new' (Kd.R_new' ho4 (rl_ HO449.out)) (rl_ HO452.out)) (rl_ HO455.out)) (rl_ HO461.out)) (rl_ HO464.out)) (bz_ HB.out)); have HO492 := Aside0.mk (Kd.R_lower (Kd.R_new' (Kd.R_new' (Kd.R_new' (Kd.R_new' (Kd.R_new' ho5 (rl_ HO449.out)) (rl_ HO452.out)) (rl_ HO455.out)) (rl_ HO461.out)) (rl_ HO464.out)) (bz_ HB.out)); replace HO449 := Aside0.mk (Kd.R_mono (Kd.R_told (Kd.R_told (Kd.R_told (Kd.R_told (Kd.R_told (Kd.R_old (ra_ HO449.out) hb) (Kd.R_base ho0)) (Kd.R_base ho1)) (Kd.R_base ho2)) (Kd.R_base ho4)) (Kd.R_base ho5)) (fun _ h_ => h_.1)); replace HO452 := Aside0.mk (Kd.R_mono (Kd.R_told (Kd.R_told (Kd.R_told (Kd.R_told (Kd.R_told (Kd.R_old (ra_ HO452.out) hb) (Kd.R_base ho0)) (Kd.R_base ho1)) (Kd.R_base ho2)) (Kd.R_base ho4)) (Kd.R_base ho5)) (fun _ h_ => h_.1)); replace HO455 := Aside0.mk (Kd.R_mono (Kd.R_told (Kd.R_told (Kd.R_told (Kd.R_told (Kd.R_told (Kd.R_old (ra_ HO455.out) hb) (Kd.R_base ho0)) (Kd.R_base ho1)) (Kd.R_base ho2)) (Kd.R_base ho4)) (Kd.R_base ho5)) (fun _ h_ => h_.1)); replace HO461 := Aside0.mk (Kd.R_mono (Kd.R_told (Kd.R_told (Kd.R_told (Kd.R_told (Kd.R_told (Kd.R_old (ra_ HO461.out) hb) (Kd.R_base ho0)) (Kd.R_base ho1)) (Kd.R_base ho2)) (Kd.R_base ho4)) (Kd.R_base ho5)) (fun _ h_ => h_.1)); replace HO464 := Aside0.mk (Kd.R_mono (Kd.R_told (Kd.R_told (Kd.R_told (Kd.R_told (Kd.R_told (Kd.R_old (ra_ HO464.out) hb) (Kd.R_base ho0)) (Kd.R_base ho1)) (Kd.R_base ho2)) (Kd.R_base ho4)) (Kd.R_base ho5)) (fun _ h_ => h_.1)); have HO495 := Aside0.mk (Kd.S_lower (Kd.S_new' (Kd.S_new' (Kd.S_new' ho6 (sl_ HO458.out)) (sl_ HO467.out)) (sl_ HO470.out)) (bz_ HB.out)); have HO498 := Aside0.mk (Kd.S_lower (Kd.S_new' (Kd.S_new' (Kd.S_new' ho7 (sl_ HO458.out)) (sl_ HO467.out)) (sl_ HO470.out)) (bz_ HB.out)); replace HO458 := Aside0.mk (Kd.S_mono (Kd.S_told (Kd.S_told (Kd.S_told (Kd.S_old (sa_ HO458.out) hb) (Kd.S_base ho3)) (Kd.S_base ho6)) (Kd.S_base ho7)) (fun _ h_ => h_.1)); replace HO467 := Aside0.mk (Kd.S_mono (Kd.S_told (Kd.S_told (Kd.S_told (Kd.S_old (sa_ HO467.out) hb) (Kd.S_base ho3)) (Kd.S_base ho6)) (Kd.S_base ho7)) (fun _ h_ => h_.1)); replace HO470 := Aside0.mk (Kd.S_mono (Kd.S_told (Kd.S_told (Kd.S_told (Kd.S_old (sa_ HO470.out) hb) (Kd.S_base ho3)) (Kd.S_base ho6)) (Kd.S_base ho7)) (fun _ h_ => h_.1)); replace BK443 := Aside0.mk (bk_ BK443.out hb); replace HB := Aside0.mk (bs_ HB.out hb); (try clear hb); (try clear ho0); (try clear ho1); (try clear ho2); (try clear ho3); (try clear ho4); (try clear ho5); (try clear ho6); (try clear ho7)) | ((with_reducible refine gate_dst (N := 5) rfl ?_); refine box_event ?hg (N := 5) ?hd (cs := #[.int .i64 0, .int .i64 0, .slice none 0 0, .slice none 0 0, .slice none 0 0, .slice none 0 0, .slice none 0 0, .slice none 0 0, .slice none 0 0, .slice none 0 0, .int .i64 0]) (t := 44) ?hr ?_; (case hd => rfl); (case hg => rfl); (case hr => first | (go_simp; done) | (go_simp; rfl)); intro gb500 hg w31 hbox hb; replace HO449 := Aside0.mk (Kd.R_below (ra_ HO449.out) hb); replace HO452 := Aside0.mk (Kd.R_below (ra_ HO452.out) hb); replace HO455 := Aside0.mk (Kd.R_below (ra_ HO455.out) hb); replace HO458 := Aside0.mk (Kd.S_below (sa_ HO458.out) hb); replace HO461 := Aside0.mk (Kd.R_below (ra_ HO461.out) hb); replace HO464 := Aside0.mk (Kd.R_below (ra_ HO464.out) hb); replace HO467 := Aside0.mk (Kd.S_below (sa_ HO467.out) hb); replace HO470 := Aside0.mk (Kd.S_below (sa_ HO470.out) hb); replace HO477 := Aside0.mk (Kd.R_below (ra_ HO477.out) hb); replace HO480 := Aside0.mk (Kd.R_below (ra_ HO480.out) hb); replace HO483 := Aside0.mk (Kd.R_below (ra_ HO483.out) hb); replace HO486 := Aside0.mk (Kd.S_below (sa_ HO486.out) hb); replace HO489 := Aside0.mk (Kd.R_below (ra_ HO489.out) hb); replace HO492 := Aside0.mk (Kd.R_below (ra_ HO492.out) hb); replace HO495 := Aside0.mk (Kd.S_below (sa_ HO495.out) hb); replace HO498 := Aside0.mk (Kd.S_below (sa_ HO498.out) hb); have BK500 := Aside0.mk (hbox); have GW500 := Aside0.mk ((by rw [hg]; exact (bz_ HB.out) : w.heap.size ≤ gb500)); have GE500 := Aside0.mk ((by rw [hg]; exact (bz_ HB.out) : w.heap.size ≤ gb500)); replace HB := Aside0.mk (bs_ HB.out hb); have NB443_500 := Aside0.mk ((by rw [hg]; exact Nat.ne_of_lt (bl_ BK443.out) : gb443 ≠ gb500)); have NB500_443 := Aside0.mk ((by rw [hg]; exact Nat.ne_of_gt (bl_ BK443.out) : gb500 ≠ gb443)); replace BK443 := Aside0.mk (bk_ BK443.out hb); clear hb hbox hg; have hnb32 := NB500_443.out; have hnc32 := NB443_500.out; obtain ⟨hcz33_0, hcz33_1, hcz33_2, hcz33_3, hcz33_4, hcz33_5, hcz33_6, hcz33_7, hcz33_8, hcz33_9, hcz33_10, hfz33_0, hfz33_1, hfz33_2, hfz33_3, hfz33_4, hfz33_5, hfz33_6, hfz33_7, hfz33_8, hfz33_9, hfz33_10⟩ := cz11_ BK500.out; obtain ⟨Ao34, co34, eo34⟩ := Kd.R_slice HO477.out; subst eo34; obtain ⟨Ao35, co35, eo35⟩ := Kd.R_slice HO480.out; subst eo35; obtain ⟨Ao36, co36, eo36⟩ := Kd.R_slice HO483.out; subst eo36; obtain ⟨Ao37, co37, eo37⟩ := Kd.S_slice HO486.out; subst eo37; obtain ⟨Ao38, co38, eo38⟩ := Kd.R_slice HO489.out; subst eo38; obtain ⟨Ao39, co39, eo39⟩ := Kd.R_slice HO492.out; subst eo39; obtain ⟨Ao40, co40, eo40⟩ := Kd.S_slice HO495.out; subst eo40; obtain ⟨Ao41, co41, eo41⟩ := Kd.S_slice HO498.out; subst eo41) | ((with_reducible refine gate_callee (f := 31) rfl ?_); refine gm_ (some 18) Try.func31 #[.agg #[.int .i64 t473, .int .i64 t474, .slice Ao34 t475.length co34, .slice Ao35 t478.length co35, .slice Ao36 t481.length co36, .slice Ao37 t484.length co37, .slice Ao38 t487.length co38, .slice Ao39 t490.length co39, .slice Ao40 t493.length co40, .slice Ao41 t496.length co41, .int .i64 t499]] rfl ?_; (with_reducible refine (impl_TotalCredit.calls k t473 t474 _ _ t475 _ _ t478 _ _ t481 _ _ t484 _ _ t487 _ _ t490 _ _ t493 _ _ t496 t499 t501 _ ?side1 ?side2 ?side3 ?side4 ?side5 ?side6 ?side7 ?side8 ?side9 ?side10 ?side11 ?side12 ?side13 ?side14 ?side15 ?side16 A10.out).mono ?_); (case side1 => refine (Kd.R_reads' (e := 3) (base := w.heap.size) (ok := fun k_ => ((((((some k_ ≠ (.slice Ao35 t478.length co35 : Value).ownBlock ∧ (some k_ ≠ (.slice Ao36 t481.length co36 : Value).ownBlock ∧ (some k_ ≠ (.slice Ao38 t487.length co38 : Value).ownBlock ∧ some k_ ≠ (.slice Ao39 t490.length co39 : Value).ownBlock))) ∧ some k_ ≠ (.slice Ao20 t447.length co20 : Value).ownBlock) ∧ some k_ ≠ (.slice Ao21 t450.length co21 : Value).ownBlock) ∧ some k_ ≠ (.slice Ao22 t453.length co22 : Value).ownBlock) ∧ some k_ ≠ (.slice Ao24 t459.length co24 : Value).ownBlock) ∧ some k_ ≠ (.slice Ao25 t462.length co25 : Value).ownBlock)) (n := t475.length) (c := co34) ?_).2.2; exact (rm_ (Kd.R_types HO477.out BK500.out (by decide)) (fun _ h_ => h_.1))); (case side2 => exact (Kd.R_reads' HO477.out).2.1); (case side3 => refine (Kd.R_reads' (e := 3) (base := w.heap.size) (ok := fun k_ => ((((((some k_ ≠ (.slice Ao34 t475.length co34 : Value).ownBlock ∧ (some k_ ≠ (.slice Ao36 t481.length co36 : Value).ownBlock ∧ (some k_ ≠ (.slice Ao38 t487.length co38 : Value).ownBlock ∧ some k_ ≠ (.slice Ao39 t490.length co39 : Value).ownBlock))) ∧ some k_ ≠ (.slice Ao20 t447.length co20 : Value).ownBlock) ∧ some k_ ≠ (.slice Ao21 t450.length co21 : Value).ownBlock) ∧ some k_ ≠ (.slice Ao22 t453.length co22 : Value).ownBlock) ∧ some k_ ≠ (.slice Ao24 t459.length co24 : Value).ownBlock) ∧ some k_ ≠ (.slice Ao25 t462.length co25 : Value).ownBlock)) (n := t478.length) (c := co35) ?_).2.2; exact (rm_ (Kd.R_types HO480.out BK500.out (by decide)) (fun _ h_ => h_.1))); (case side4 => exact (Kd.R_reads' HO480.out).2.1); (case side5 => refine (Kd.R_reads' (e := 3) (base := w.heap.size) (ok := fun k_ => ((((((some k_ ≠ (.slice Ao34 t475.length co34 : Value).ownBlock ∧ (some k_ ≠ (.slice Ao35 t478.length co35 : Value).ownBlock ∧ (some k_ ≠ (.slice Ao38 t487.length co38 : Value).ownBlock ∧ some k_ ≠ (.slice Ao39 t490.length co39 : Value).ownBlock))) ∧ some k_ ≠ (.slice Ao20 t447.length co20 : Value).ownBlock) ∧ some k_ ≠ (.slice Ao21 t450.length co21 : Value).ownBlock) ∧ some k_ ≠ (.slice Ao22 t453.length co22 : Value).ownBlock) ∧ some k_ ≠ (.slice Ao24 t459.length co24 : Value).ownBlock) ∧ some k_ ≠ (.slice Ao25 t462.length co25 : Value).ownBlock)) (n := t481.length) (c := co36) ?_).2.2; exact (rm_ (Kd.R_types HO483.out BK500.out (by decide)) (fun _ h_ => h_.1))); (case side6 => exact (Kd.R_reads' HO483.out).2.1); (case side7 => refine (Kd.S_reads' (e := 62) (base := w.heap.size) (ok := fun k_ => ((((some k_ ≠ (.slice Ao40 t493.length co40 : Value).ownBlock ∧ some k_ ≠ (.slice Ao41 t496.length co41 : Value).ownBlock) ∧ some k_ ≠ (.slice Ao23 t456.length co23 : Value).ownBlock) ∧ some k_ ≠ (.slice Ao26 t465.length co26 : Value).ownBlock) ∧ some k_ ≠ (.slice Ao27 t468.length co27 : Value).ownBlock)) (n := t484.length) (c := co37) ?_).2.2; exact (sm_ (Kd.S_types HO486.out BK500.out (by decide)) (fun _ h_ => h_.1))); (case side8 => exact (Kd.S_reads' HO486.out).2.1); (case side9 => refine (Kd.R_reads' (e := 3) (base := w.heap.size) (ok := fun k_ => ((((((some k_ ≠ (.slice Ao34 t475.length co34 : Value).ownBlock ∧ (some k_ ≠ (.slice Ao35 t478.length co35 : Value).ownBlock ∧ (some k_ ≠ (.slice Ao36 t481.length co36 : Value).ownBlock ∧ some k_ ≠ (.slice Ao39 t490.length co39 : Value).ownBlock))) ∧ some k_ ≠ (.slice Ao20 t447.length co20 : Value).ownBlock) ∧ some k_ ≠ (.slice Ao21 t450.length co21 : Value).ownBlock) ∧ some k_ ≠ (.slice Ao22 t453.length co22 : Value).ownBlock) ∧ some k_ ≠ (.slice Ao24 t459.length co24 : Value).ownBlock) ∧ some k_ ≠ (.slice Ao25 t462.length co25 : Value).ownBlock)) (n := t487.length) (c := co38) ?_).2.2; exact (rm_ (Kd.R_types HO489.out BK500.out (by decide)) (fun _ h_ => h_.1))); (case side10 => exact (Kd.R_reads' HO489.out).2.1); (case side11 => refine (Kd.R_reads' (e := 3) (base := w.heap.size) (ok := fun k_ => ((((((some k_ ≠ (.slice Ao34 t475.length co34 : Value).ownBlock ∧ (some k_ ≠ (.slice Ao35 t478.length co35 : Value).ownBlock ∧ (some k_ ≠ (.slice Ao36 t481.length co36 : Value).ownBlock ∧ some k_ ≠ (.slice Ao38 t487.length co38 : Value).ownBlock))) ∧ some k_ ≠ (.slice Ao20 t447.length co20 : Value).ownBlock) ∧ some k_ ≠ (.slice Ao21 t450.length co21 : Value).ownBlock) ∧ some k_ ≠ (.slice Ao22 t453.length co22 : Value).ownBlock) ∧ some k_ ≠ (.slice Ao24 t459.length co24 : Value).ownBlock) ∧ some k_ ≠ (.slice Ao25 t462.length co25 : Value).ownBlock)) (n := t490.length) (c := co39) ?_).2.2; exact (rm_ (Kd.R_types HO492.out BK500.out (by decide)) (fun _ h_ => h_.1))); (case side12 => exact (Kd.R_reads' HO492.out).2.1); (case side13 => refine (Kd.S_reads' (e := 62) (base := w.heap.size) (ok := fun k_ => ((((some k_ ≠ (.slice Ao37 t484.length co37 : Value).ownBlock ∧ some k_ ≠ (.slice Ao41 t496.length co41 : Value).ownBlock) ∧ some k_ ≠ (.slice Ao23 t456.length co23 : Value).ownBlock) ∧ some k_ ≠ (.slice Ao26 t465.length co26 : Value).ownBlock) ∧ some k_ ≠ (.slice Ao27 t468.length co27 : Value).ownBlock)) (n := t493.length) (c := co40) ?_).2.2; exact (sm_ (Kd.S_types HO495.out BK500.out (by decide)) (fun _ h_ => h_.1))); (case side14 => exact (Kd.S_reads' HO495.out).2.1); (case side15 => refine (Kd.S_reads' (e := 62) (base := w.heap.size) (ok := fun k_ => ((((some k_ ≠ (.slice Ao37 t484.length co37 : Value).ownBlock ∧ some k_ ≠ (.slice Ao40 t493.length co40 : Value).ownBlock) ∧ some k_ ≠ (.slice Ao23 t456.length co23 : Value).ownBlock) ∧ some k_ ≠ (.slice Ao26 t465.length co26 : Value).ownBlock) ∧ some k_ ≠ (.slice Ao27 t468.length co27 : Value).ownBlock)) (n := t496.length) (c := co41) ?_).2.2; exact (sm_ (Kd.S_types HO498.out BK500.out (by decide)) (fun _ h_ => h_.1))); (case side16 => exact (Kd.S_reads' HO498.out).2.1); rintro e w42 ⟨rfl, hb⟩; refine ⟨_, rfl, ?_⟩; replace HO449 := Aside0.mk (Kd.R_below (rm_ (Kd.R_types HO449.out BK500.out (by decide)) (fun _ h_ => h_.1)) hb); replace HO452 := Aside0.mk (Kd.R_below (rm_ (Kd.R_types HO452.out BK500.out (by decide)) (fun _ h_ => h_.1)) hb); replace HO455 := Aside0.mk (Kd.R_below (rm_ (Kd.R_types HO455.out BK500.out (by decide)) (fun _ h_ => h_.1)) hb); replace HO458 := Aside0.mk (Kd.S_below (sm_ (Kd.S_types HO458.out BK500.out (by decide)) (fun _ h_ => h_.1)) hb); replace HO461 := Aside0.mk (Kd.R_below (rm_ (Kd.R_types HO461.out BK500.out (by decide)) (fun _ h_ => h_.1)) hb); replace HO464 := Aside0.mk (Kd.R_below (rm_ (Kd.R_types HO464.out BK500.out (by decide)) (fun _ h_ => h_.1)) hb); replace HO467 := Aside0.mk (Kd.S_below (sm_ (Kd.S_types HO467.out BK500.out (by decide)) (fun _ h_ => h_.1)) hb); replace HO470 := Aside0.mk (Kd.S_below (sm_ (Kd.S_types HO470.out BK500.out (by decide)) (fun _ h_ => h_.1)) hb); replace HO477 := Aside0.mk (Kd.R_below (rm_ (Kd.R_types HO477.out BK500.out (by decide)) (fun _ h_ => h_.1)) hb); replace HO480 := Aside0.mk (Kd.R_below (rm_ (Kd.R_types HO480.out BK500.out (by decide)) (fun _ h_ => h_.1)) hb); replace HO483 := Aside0.mk (Kd.R_below (rm_ (Kd.R_types HO483.out BK500.out (by decide)) (fun _ h_ => h_.1)) hb); replace HO486 := Aside0.mk (Kd.S_below (sm_ (Kd.S_types HO486.out BK500.out (by decide)) (fun _ h_ => h_.1)) hb); replace HO489 := Aside0.mk (Kd.R_below (rm_ (Kd.R_types HO489.out BK500.out (by decide)) (fun _ h_ => h_.1)) hb); replace HO492 := Aside0.mk (Kd.R_below (rm_ (Kd.R_types HO492.out BK500.out (by decide)) (fun _ h_ => h_.1)) hb); replace HO495 := Aside0.mk (Kd.S_below (sm_ (Kd.S_types HO495.out BK500.out (by decide)) (fun _ h_ => h_.1)) hb); replace HO498 := Aside0.mk (Kd.S_below (sm_ (Kd.S_types HO498.out BK500.out (by decide)) (fun _ h_ => h_.1)) hb); replace BK443 := Aside0.mk (blk_below (bf_ BK443.out) hb); replace BK500 := Aside0.mk (blk_below (g := gb500) (o := .cells #[.int .i64 t473, .int .i64 t474, .slice Ao34 t475.length co34, .slice Ao35 t478.length co35, .slice Ao36 t481.length co36, .slice Ao37 t484.length co37, .slice Ao38 t487.length co38, .slice Ao39 t490.length co39, .slice Ao40 t493.length co40, .slice Ao41 t496.length co41, .int .i64 t499] 44 (0, 0)) (by (with_reducible repeat (first | refine blk_drewN ?_ _ | refine blk_drew ?_ | refine blk_alloc ?_ _)); refine blk_put (cs := #[.int .i64 t473, .int .i64 t474, .slice Ao34 t475.length co34, .slice Ao35 t478.length co35, .slice Ao36 t481.length co36, .slice Ao37 t484.length co37, .slice Ao38 t487.length co38, .slice Ao39 t490.length co39, .slice Ao40 t493.length co40, .slice Ao41 t496.length co41, .int .i64 0]) ?_ 10 _ rfl; (with_reducible repeat (first | refine blk_drewN ?_ _ | refine blk_drew ?_ | refine blk_alloc ?_ _)); refine blk_put (cs := #[.int .i64 t473, .int .i64 t474, .slice Ao34 t475.length co34, .slice Ao35 t478.length co35, .slice Ao36 t481.length co36, .slice Ao37 t484.length co37, .slice Ao38 t487.length co38, .slice Ao39 t490.length co39, .slice Ao40 t493.length co40, .slice none 0 0, .int .i64 0]) ?_ 9 _ rfl; (with_reducible repeat (first | refine blk_drewN ?_ _ | refine blk_drew ?_ | refine blk_alloc ?_ _)); refine blk_put (cs := #[.int .i64 t473, .int .i64 t474, .slice Ao34 t475.length co34, .slice Ao35 t478.length co35, .slice Ao36 t481.length co36, .slice Ao37 t484.length co37, .slice Ao38 t487.length co38, .slice Ao39 t490.length co39, .slice none 0 0, .slice none 0 0, .int .i64 0]) ?_ 8 _ rfl; (with_reducible repeat (first | refine blk_drewN ?_ _ | refine blk_drew ?_ | refine blk_alloc ?_ _)); refine blk_put (cs := #[.int .i64 t473, .int .i64 t474, .slice Ao34 t475.length co34, .slice Ao35 t478.length co35, .slice Ao36 t481.length co36, .slice Ao37 t484.length co37, .slice Ao38 t487.length co38, .slice none 0 0, .slice none 0 0, .slice none 0 0, .int .i64 0]) ?_ 7 _ rfl; (with_reducible repeat (first | refine blk_drewN ?_ _ | refine blk_drew ?_ | refine blk_alloc ?_ _)); refine blk_put (cs := #[.int .i64 t473, .int .i64 t474, .slice Ao34 t475.length co34, .slice Ao35 t478.length co35, .slice Ao36 t481.length co36, .slice Ao37 t484.length co37, .slice none 0 0, .slice none 0 0, .slice none 0 0, .slice none 0 0, .int .i64 0]) ?_ 6 _ rfl; (with_reducible repeat (first | refine blk_drewN ?_ _ | refine blk_drew ?_ | refine blk_alloc ?_ _)); refine blk_put (cs := #[.int .i64 t473, .int .i64 t474, .slice Ao34 t475.length co34, .slice Ao35 t478.length co35, .slice Ao36 t481.length co36, .slice none 0 0, .slice none 0 0, .slice none 0 0, .slice none 0 0, .slice none 0 0, .int .i64 0]) ?_ 5 _ rfl; (with_reducible repeat (first | refine blk_drewN ?_ _ | refine blk_drew ?_ | refine blk_alloc ?_ _)); refine blk_put (cs := #[.int .i64 t473, .int .i64 t474, .slice Ao34 t475.length co34, .slice Ao35 t478.length co35, .slice none 0 0, .slice none 0 0, .slice none 0 0, .slice none 0 0, .slice none 0 0, .slice none 0 0, .int .i64 0]) ?_ 4 _ rfl; (with_reducible repeat (first | refine blk_drewN ?_ _ | refine blk_drew ?_ | refine blk_alloc ?_ _)); refine blk_put (cs := #[.int .i64 t473, .int .i64 t474, .slice Ao34 t475.length co34, .slice none 0 0, .slice none 0 0, .slice none 0 0, .slice none 0 0, .slice none 0 0, .slice none 0 0, .slice none 0 0, .int .i64 0]) ?_ 3 _ rfl; (with_reducible repeat (first | refine blk_drewN ?_ _ | refine blk_drew ?_ | refine blk_alloc ?_ _)); refine blk_put (cs := #[.int .i64 t473, .int .i64 t474, .slice none 0 0, .slice none 0 0, .slice none 0 0, .slice none 0 0, .slice none 0 0, .slice none 0 0, .slice none 0 0, .slice none 0 0, .int .i64 0]) ?_ 2 _ rfl; (with_reducible repeat (first | refine blk_drewN ?_ _ | refine blk_drew ?_ | refine blk_alloc ?_ _)); refine blk_put (cs := #[.int .i64 t473, .int .i64 0, .slice none 0 0, .slice none 0 0, .slice none 0 0, .slice none 0 0, .slice none 0 0, .slice none 0 0, .slice none 0 0, .slice none 0 0, .int .i64 0]) ?_ 1 _ rfl; (with_reducible repeat (first | refine blk_drewN ?_ _ | refine blk_drew ?_ | refine blk_alloc ?_ _)); refine blk_put (cs := #[.int .i64 0, .int .i64 0, .slice none 0 0, .slice none 0 0, .slice none 0 0, .slice none 0 0, .slice none 0 0, .slice none 0 0, .slice none 0 0, .slice none 0 0, .int .i64 0]) ?_ 0 _ rfl; (with_reducible repeat (first | refine blk_drewN ?_ _ | refine blk_drew ?_ | refine blk_alloc ?_ _)); exact BK500.out) hb); replace HB := Aside0.mk (bs_ HB.out hb); (try clear hb)))
    have n0_ := Aside0.mk (Kd.R_drew HO449.out)
    have n1_ := Aside0.mk (Kd.R_drew HO452.out)
    have n2_ := Aside0.mk (Kd.R_drew HO455.out)
    have n3_ := Aside0.mk (Kd.S_drew HO458.out)
    have n4_ := Aside0.mk (Kd.R_drew HO461.out)
    have n5_ := Aside0.mk (Kd.R_drew HO464.out)
    have n6_ := Aside0.mk (Kd.S_drew HO467.out)
    have n7_ := Aside0.mk (Kd.S_drew HO470.out)
    have n8_ := Aside0.mk (Kd.R_drew HO477.out)
    have n9_ := Aside0.mk (Kd.R_drew HO480.out)
    have n10_ := Aside0.mk (Kd.R_drew HO483.out)
    have n11_ := Aside0.mk (Kd.S_drew HO486.out)
    have n12_ := Aside0.mk (Kd.R_drew HO489.out)
    have n13_ := Aside0.mk (Kd.R_drew HO492.out)
    have n14_ := Aside0.mk (Kd.S_drew HO495.out)
    have n15_ := Aside0.mk (Kd.S_drew HO498.out)
    have n16_ := Aside0.mk (blk_drew BK443.out)
    have n17_ := Aside0.mk (blk_drew BK500.out)
    have n18_ := Aside0.mk (below_drew1 HB.out)
    clear HO449
    clear HO452
    clear HO455
    clear HO458
    clear HO461
    clear HO464
    clear HO467
    clear HO470
    clear HO477
    clear HO480
    clear HO483
    clear HO486
    clear HO489
    clear HO492
    clear HO495
    clear HO498
    clear BK443
    clear BK500
    clear HB
    have HO449 := n0_
    have HO452 := n1_
    have HO455 := n2_
    have HO458 := n3_
    have HO461 := n4_
    have HO464 := n5_
    have HO467 := n6_
    have HO470 := n7_
    have HO477 := n8_
    have HO480 := n9_
    have HO483 := n10_
    have HO486 := n11_
    have HO489 := n12_
    have HO492 := n13_
    have HO495 := n14_
    have HO498 := n15_
    have BK443 := n16_
    have BK500 := n17_
    have HB := n18_
    clear n0_ n1_ n2_ n3_ n4_ n5_ n6_ n7_ n8_ n9_ n10_ n11_ n12_ n13_ n14_ n15_ n16_ n17_ n18_
    refine start_ (n := 5) (S := fun w' => w'.cell? ⟨gb500, 0, none⟩ = some (.int .i64 t473) ∧ w'.cell? ⟨gb500, 1, none⟩ = some (.int .i64 t474) ∧ w'.cell? ⟨gb500, 2, none⟩ = some (.slice Ao34 t475.length co34) ∧ w'.cell? ⟨gb500, 3, none⟩ = some (.slice Ao35 t478.length co35) ∧ w'.cell? ⟨gb500, 4, none⟩ = some (.slice Ao36 t481.length co36) ∧ w'.cell? ⟨gb500, 5, none⟩ = some (.slice Ao37 t484.length co37) ∧ w'.cell? ⟨gb500, 6, none⟩ = some (.slice Ao38 t487.length co38) ∧ w'.cell? ⟨gb500, 7, none⟩ = some (.slice Ao39 t490.length co39) ∧ w'.cell? ⟨gb500, 8, none⟩ = some (.slice Ao40 t493.length co40) ∧ w'.cell? ⟨gb500, 9, none⟩ = some (.slice Ao41 t496.length co41) ∧ w'.cell? ⟨gb500, 10, none⟩ = some (.int .i64 t499) ∧ w'.cell? ⟨gb443, 0, none⟩ = some (.int .i64 a0_0) ∧ w'.cell? ⟨gb443, 1, none⟩ = some (.int .i64 a0_1) ∧ w'.cell? ⟨gb443, 2, none⟩ = some (.slice A0_2 l0_2.length c0_2) ∧ w'.cell? ⟨gb443, 3, none⟩ = some (.slice A0_3 l0_3.length c0_3) ∧ w'.cell? ⟨gb443, 4, none⟩ = some (.slice A0_4 l0_4.length c0_4) ∧ w'.cell? ⟨gb443, 5, none⟩ = some (.slice A0_5 l0_5.length c0_5) ∧ w'.cell? ⟨gb443, 6, none⟩ = some (.slice A0_6 l0_6.length c0_6) ∧ w'.cell? ⟨gb443, 7, none⟩ = some (.slice A0_7 l0_7.length c0_7) ∧ w'.cell? ⟨gb443, 8, none⟩ = some (.slice A0_8 l0_8.length c0_8) ∧ w'.cell? ⟨gb443, 9, none⟩ = some (.slice A0_9 l0_9.length c0_9) ∧ w'.cell? ⟨gb443, 10, none⟩ = some (.int .i64 a0_10)) (ds := []) #[false, false, false, false, false] (by kernel_rfl) rfl rfl ⟨(blk_cell BK500.out 0).trans rfl, (blk_cell BK500.out 1).trans rfl, (blk_cell BK500.out 2).trans rfl, (blk_cell BK500.out 3).trans rfl, (blk_cell BK500.out 4).trans rfl, (blk_cell BK500.out 5).trans rfl, (blk_cell BK500.out 6).trans rfl, (blk_cell BK500.out 7).trans rfl, (blk_cell BK500.out 8).trans rfl, (blk_cell BK500.out 9).trans rfl, (blk_cell BK500.out 10).trans rfl, (blk_cell BK443.out 0).trans rfl, (blk_cell BK443.out 1).trans rfl, (blk_cell BK443.out 2).trans rfl, (blk_cell BK443.out 3).trans rfl, (blk_cell BK443.out 4).trans rfl, (blk_cell BK443.out 5).trans rfl, (blk_cell BK443.out 6).trans rfl, (blk_cell BK443.out 7).trans rfl, (blk_cell BK443.out 8).trans rfl, (blk_cell BK443.out 9).trans rfl, (blk_cell BK443.out 10).trans rfl⟩ (fun hHeld => ?_)
    generalize w42.drew = w43 at HO449 HO452 HO455 HO458 HO461 HO464 HO467 HO470 HO477 HO480 HO483 HO486 HO489 HO492 HO495 HO498 BK443 BK500 HB hHeld ⊢
    refine take_ (i := 0) (N := some 22) (v := ?_) (a' := ?_) (bt_ 5 1) rfl rfl (by kernel_rfl) (fun _ _ _ h => h) (Or.inl ⟨by rfl, ?_⟩) hHeld ?_ ?_
    rotate_left
    ·rintro w' ⟨s0, s1, s2, s3, s4, s5, s6, s7, s8, s9, s10, s11, s12, s13, s14, s15, s16, s17, s18, s19, s20, s21⟩
     go_simp
     with_reducible rfl
    rotate_left
    ·simp only [Act.put, List.setIfInBounds_toArray, List.set_cons_zero, List.set_cons_succ, i64_w, i32_w]
     rfl
    refine take_ (i := 1) (N := some 23) (v := ?_) (a' := ?_) (bt_ 5 3) rfl rfl (by kernel_rfl) (fun _ _ _ h => h) (Or.inl ⟨by rfl, ?_⟩) hHeld ?_ ?_
    rotate_left
    ·rintro w' ⟨s0, s1, s2, s3, s4, s5, s6, s7, s8, s9, s10, s11, s12, s13, s14, s15, s16, s17, s18, s19, s20, s21⟩
     go_simp
     with_reducible rfl
    rotate_left
    ·simp only [Act.put, List.setIfInBounds_toArray, List.set_cons_zero, List.set_cons_succ, i64_w, i32_w]
     rfl
    refine one_ (i := 2) (N := some 24) (bt_ 5 7) rfl rfl (by kernel_rfl) (by decide) (fun K hK => ?_)
    refine goes_ Try.func17 (by kernel_rfl) rfl #[.agg #[.int .i64 a0_0, .int .i64 a0_1, .slice A0_2 l0_2.length c0_2, .slice A0_3 l0_3.length c0_3, .slice A0_4 l0_4.length c0_4, .slice A0_5 l0_5.length c0_5, .slice A0_6 l0_6.length c0_6, .slice A0_7 l0_7.length c0_7, .slice A0_8 l0_8.length c0_8, .slice A0_9 l0_9.length c0_9, .int .i64 a0_10]] (by rfl) rfl rfl (by (try simp only [List.map_toArray, List.map_cons, List.map_nil]); first | done | rfl | (simp only [List.length_drop, List.length_take]; rfl)) ?_
    with_reducible refine (laws_toNet.calls k a0_0 a0_1 _ _ l0_2 _ _ l0_3 _ _ l0_4 _ _ l0_5 _ _ l0_6 _ _ l0_7 _ _ l0_8 _ _ l0_9 a0_10 t502 t503 t504 t507 t510 t513 t516 t519 t522 t525 t528 _ ?side1 ?side2 ?side3 ?side4 ?side5 ?side6 ?side7 ?side8 ?side9 ?side10 ?side11 ?side12 ?side13 ?side14 ?side15 ?side16 A12.out).mono ?_
    (case side1 => exact cb_ HR0_2.out HB.out)
    (case side2 => exact HC0_2.out)
    (case side3 => exact cb_ HR0_3.out HB.out)
    (case side4 => exact HC0_3.out)
    (case side5 => exact cb_ HR0_4.out HB.out)
    (case side6 => exact HC0_4.out)
    (case side7 => exact cb_ HR0_5.out HB.out)
    (case side8 => exact HC0_5.out)
    (case side9 => exact cb_ HR0_6.out HB.out)
    (case side10 => exact HC0_6.out)
    (case side11 => exact cb_ HR0_7.out HB.out)
    (case side12 => exact HC0_7.out)
    (case side13 => exact cb_ HR0_8.out HB.out)
    (case side14 => exact HC0_8.out)
    (case side15 => exact cb_ HR0_9.out HB.out)
    (case side16 => exact HC0_9.out)
    rintro e w44 ⟨v505, v508, v511, v514, v517, v520, v523, v526, rfl, ho0, ho1, ho2, ho3, ho4, ho5, ho6, ho7, hb⟩
    refine ⟨_, rfl, ?_⟩
    have n0_ := Aside0.mk (Kd.R_mono (Kd.R_told (Kd.R_told (Kd.R_told (Kd.R_told (Kd.R_told (Kd.R_old (ra_ HO449.out) hb) (Kd.R_base ho0)) (Kd.R_base ho1)) (Kd.R_base ho2)) (Kd.R_base ho4)) (Kd.R_base ho5)) (fun _ h_ => h_.1))
    have n1_ := Aside0.mk (Kd.R_mono (Kd.R_told (Kd.R_told (Kd.R_told (Kd.R_told (Kd.R_told (Kd.R_old (ra_ HO452.out) hb) (Kd.R_base ho0)) (Kd.R_base ho1)) (Kd.R_base ho2)) (Kd.R_base ho4)) (Kd.R_base ho5)) (fun _ h_ => h_.1))
    have n2_ := Aside0.mk (Kd.R_mono (Kd.R_told (Kd.R_told (Kd.R_told (Kd.R_told (Kd.R_told (Kd.R_old (ra_ HO455.out) hb) (Kd.R_base ho0)) (Kd.R_base ho1)) (Kd.R_base ho2)) (Kd.R_base ho4)) (Kd.R_base ho5)) (fun _ h_ => h_.1))
    have n3_ := Aside0.mk (Kd.S_mono (Kd.S_told (Kd.S_told (Kd.S_told (Kd.S_old (sa_ HO458.out) hb) (Kd.S_base ho3)) (Kd.S_base ho6)) (Kd.S_base ho7)) (fun _ h_ => h_.1))
    have n4_ := Aside0.mk (Kd.R_mono (Kd.R_told (Kd.R_told (Kd.R_told (Kd.R_told (Kd.R_told (Kd.R_old (ra_ HO461.out) hb) (Kd.R_base ho0)) (Kd.R_base ho1)) (Kd.R_base ho2)) (Kd.R_base ho4)) (Kd.R_base ho5)) (fun _ h_ => h_.1))
    have n5_ := Aside0.mk (Kd.R_mono (Kd.R_told (Kd.R_told (Kd.R_told (Kd.R_told (Kd.R_told (Kd.R_old (ra_ HO464.out) hb) (Kd.R_base ho0)) (Kd.R_base ho1)) (Kd.R_base ho2)) (Kd.R_base ho4)) (Kd.R_base ho5)) (fun _ h_ => h_.1))
    have n6_ := Aside0.mk (Kd.S_mono (Kd.S_told (Kd.S_told (Kd.S_told (Kd.S_old (sa_ HO467.out) hb) (Kd.S_base ho3)) (Kd.S_base ho6)) (Kd.S_base ho7)) (fun _ h_ => h_.1))
    have n7_ := Aside0.mk (Kd.S_mono (Kd.S_told (Kd.S_told (Kd.S_told (Kd.S_old (sa_ HO470.out) hb) (Kd.S_base ho3)) (Kd.S_base ho6)) (Kd.S_base ho7)) (fun _ h_ => h_.1))
    have n8_ := Aside0.mk (Kd.R_mono (Kd.R_told (Kd.R_told (Kd.R_told (Kd.R_told (Kd.R_told (Kd.R_old (ra_ HO477.out) hb) (Kd.R_base ho0)) (Kd.R_base ho1)) (Kd.R_base ho2)) (Kd.R_base ho4)) (Kd.R_base ho5)) (fun _ h_ => h_.1))
    have n9_ := Aside0.mk (Kd.R_mono (Kd.R_told (Kd.R_told (Kd.R_told (Kd.R_told (Kd.R_told (Kd.R_old (ra_ HO480.out) hb) (Kd.R_base ho0)) (Kd.R_base ho1)) (Kd.R_base ho2)) (Kd.R_base ho4)) (Kd.R_base ho5)) (fun _ h_ => h_.1))
    have n10_ := Aside0.mk (Kd.R_mono (Kd.R_told (Kd.R_told (Kd.R_told (Kd.R_told (Kd.R_told (Kd.R_old (ra_ HO483.out) hb) (Kd.R_base ho0)) (Kd.R_base ho1)) (Kd.R_base ho2)) (Kd.R_base ho4)) (Kd.R_base ho5)) (fun _ h_ => h_.1))
    have n11_ := Aside0.mk (Kd.S_mono (Kd.S_told (Kd.S_told (Kd.S_told (Kd.S_old (sa_ HO486.out) hb) (Kd.S_base ho3)) (Kd.S_base ho6)) (Kd.S_base ho7)) (fun _ h_ => h_.1))
    have n12_ := Aside0.mk (Kd.R_mono (Kd.R_told (Kd.R_told (Kd.R_told (Kd.R_told (Kd.R_told (Kd.R_old (ra_ HO489.out) hb) (Kd.R_base ho0)) (Kd.R_base ho1)) (Kd.R_base ho2)) (Kd.R_base ho4)) (Kd.R_base ho5)) (fun _ h_ => h_.1))
    have n13_ := Aside0.mk (Kd.R_mono (Kd.R_told (Kd.R_told (Kd.R_told (Kd.R_told (Kd.R_told (Kd.R_old (ra_ HO492.out) hb) (Kd.R_base ho0)) (Kd.R_base ho1)) (Kd.R_base ho2)) (Kd.R_base ho4)) (Kd.R_base ho5)) (fun _ h_ => h_.1))
    have n14_ := Aside0.mk (Kd.S_mono (Kd.S_told (Kd.S_told (Kd.S_told (Kd.S_old (sa_ HO495.out) hb) (Kd.S_base ho3)) (Kd.S_base ho6)) (Kd.S_base ho7)) (fun _ h_ => h_.1))
    have n15_ := Aside0.mk (Kd.S_mono (Kd.S_told (Kd.S_told (Kd.S_told (Kd.S_old (sa_ HO498.out) hb) (Kd.S_base ho3)) (Kd.S_base ho6)) (Kd.S_base ho7)) (fun _ h_ => h_.1))
    have n16_ := Aside0.mk (Kd.R_lower (Kd.R_new' (Kd.R_new' (Kd.R_new' (Kd.R_new' (Kd.R_new' (Kd.R_new' (Kd.R_new' (Kd.R_new' (Kd.R_new' (Kd.R_new' ho0 (rl_ HO449.out)) (rl_ HO452.out)) (rl_ HO455.out)) (rl_ HO461.out)) (rl_ HO464.out)) (rl_ HO477.out)) (rl_ HO480.out)) (rl_ HO483.out)) (rl_ HO489.out)) (rl_ HO492.out)) (bz_ HB.out))
    have n17_ := Aside0.mk (Kd.R_lower (Kd.R_new' (Kd.R_new' (Kd.R_new' (Kd.R_new' (Kd.R_new' (Kd.R_new' (Kd.R_new' (Kd.R_new' (Kd.R_new' (Kd.R_new' ho1 (rl_ HO449.out)) (rl_ HO452.out)) (rl_ HO455.out)) (rl_ HO461.out)) (rl_ HO464.out)) (rl_ HO477.out)) (rl_ HO480.out)) (rl_ HO483.out)) (rl_ HO489.out)) (rl_ HO492.out)) (bz_ HB.out))
    have n18_ := Aside0.mk (Kd.R_lower (Kd.R_new' (Kd.R_new' (Kd.R_new' (Kd.R_new' (Kd.R_new' (Kd.R_new' (Kd.R_new' (Kd.R_new' (Kd.R_new' (Kd.R_new' ho2 (rl_ HO449.out)) (rl_ HO452.out)) (rl_ HO455.out)) (rl_ HO461.out)) (rl_ HO464.out)) (rl_ HO477.out)) (rl_ HO480.out)) (rl_ HO483.out)) (rl_ HO489.out)) (rl_ HO492.out)) (bz_ HB.out))
    have n19_ := Aside0.mk (Kd.S_lower (Kd.S_new' (Kd.S_new' (Kd.S_new' (Kd.S_new' (Kd.S_new' (Kd.S_new' ho3 (sl_ HO458.out)) (sl_ HO467.out)) (sl_ HO470.out)) (sl_ HO486.out)) (sl_ HO495.out)) (sl_ HO498.out)) (bz_ HB.out))
    have n20_ := Aside0.mk (Kd.R_lower (Kd.R_new' (Kd.R_new' (Kd.R_new' (Kd.R_new' (Kd.R_new' (Kd.R_new' (Kd.R_new' (Kd.R_new' (Kd.R_new' (Kd.R_new' ho4 (rl_ HO449.out)) (rl_ HO452.out)) (rl_ HO455.out)) (rl_ HO461.out)) (rl_ HO464.out)) (rl_ HO477.out)) (rl_ HO480.out)) (rl_ HO483.out)) (rl_ HO489.out)) (rl_ HO492.out)) (bz_ HB.out))
    have n21_ := Aside0.mk (Kd.R_lower (Kd.R_new' (Kd.R_new' (Kd.R_new' (Kd.R_new' (Kd.R_new' (Kd.R_new' (Kd.R_new' (Kd.R_new' (Kd.R_new' (Kd.R_new' ho5 (rl_ HO449.out)) (rl_ HO452.out)) (rl_ HO455.out)) (rl_ HO461.out)) (rl_ HO464.out)) (rl_ HO477.out)) (rl_ HO480.out)) (rl_ HO483.out)) (rl_ HO489.out)) (rl_ HO492.out)) (bz_ HB.out))
    have n22_ := Aside0.mk (Kd.S_lower (Kd.S_new' (Kd.S_new' (Kd.S_new' (Kd.S_new' (Kd.S_new' (Kd.S_new' ho6 (sl_ HO458.out)) (sl_ HO467.out)) (sl_ HO470.out)) (sl_ HO486.out)) (sl_ HO495.out)) (sl_ HO498.out)) (bz_ HB.out))
    have n23_ := Aside0.mk (Kd.S_lower (Kd.S_new' (Kd.S_new' (Kd.S_new' (Kd.S_new' (Kd.S_new' (Kd.S_new' ho7 (sl_ HO458.out)) (sl_ HO467.out)) (sl_ HO470.out)) (sl_ HO486.out)) (sl_ HO495.out)) (sl_ HO498.out)) (bz_ HB.out))
    have n24_ := Aside0.mk (bk_ BK443.out hb)
    have n25_ := Aside0.mk (bk_ BK500.out hb)
    have n26_ := Aside0.mk (bs_ HB.out hb)
    clear HO449
    clear HO452
    clear HO455
    clear HO458
    clear HO461
    clear HO464
    clear HO467
    clear HO470
    clear HO477
    clear HO480
    clear HO483
    clear HO486
    clear HO489
    clear HO492
    clear HO495
    clear HO498
    clear BK443
    clear BK500
    clear HB
    have HO449 := n0_
    have HO452 := n1_
    have HO455 := n2_
    have HO458 := n3_
    have HO461 := n4_
    have HO464 := n5_
    have HO467 := n6_
    have HO470 := n7_
    have HO477 := n8_
    have HO480 := n9_
    have HO483 := n10_
    have HO486 := n11_
    have HO489 := n12_
    have HO492 := n13_
    have HO495 := n14_
    have HO498 := n15_
    have HO506 := n16_
    have HO509 := n17_
    have HO512 := n18_
    have HO515 := n19_
    have HO518 := n20_
    have HO521 := n21_
    have HO524 := n22_
    have HO527 := n23_
    have BK443 := n24_
    have BK500 := n25_
    have HB := n26_
    clear n0_ n1_ n2_ n3_ n4_ n5_ n6_ n7_ n8_ n9_ n10_ n11_ n12_ n13_ n14_ n15_ n16_ n17_ n18_ n19_ n20_ n21_ n22_ n23_ n24_ n25_ n26_
    (try clear hb)
    (try clear hb2)
    (try clear hk)
    (try clear hi)
    (try clear ho0)
    (try clear ho1)
    (try clear ho2)
    (try clear ho3)
    (try clear ho4)
    (try clear ho5)
    (try clear ho6)
    (try clear ho7)
    obtain ⟨Ao45, co45, eo45⟩ := Kd.R_slice HO506.out
    (first | subst eo45 | (injection eo45 with f1_ f2_ f3_; have f4_ := f1_.symm; have f5_ := f3_.symm; clear f1_ f2_ f3_; subst f4_; subst f5_))
    obtain ⟨Ao46, co46, eo46⟩ := Kd.R_slice HO509.out
    (first | subst eo46 | (injection eo46 with f1_ f2_ f3_; have f4_ := f1_.symm; have f5_ := f3_.symm; clear f1_ f2_ f3_; subst f4_; subst f5_))
    obtain ⟨Ao47, co47, eo47⟩ := Kd.R_slice HO512.out
    (first | subst eo47 | (injection eo47 with f1_ f2_ f3_; have f4_ := f1_.symm; have f5_ := f3_.symm; clear f1_ f2_ f3_; subst f4_; subst f5_))
    obtain ⟨Ao48, co48, eo48⟩ := Kd.S_slice HO515.out
    (first | subst eo48 | (injection eo48 with f1_ f2_ f3_; have f4_ := f1_.symm; have f5_ := f3_.symm; clear f1_ f2_ f3_; subst f4_; subst f5_))
    obtain ⟨Ao49, co49, eo49⟩ := Kd.R_slice HO518.out
    (first | subst eo49 | (injection eo49 with f1_ f2_ f3_; have f4_ := f1_.symm; have f5_ := f3_.symm; clear f1_ f2_ f3_; subst f4_; subst f5_))
    obtain ⟨Ao50, co50, eo50⟩ := Kd.R_slice HO521.out
    (first | subst eo50 | (injection eo50 with f1_ f2_ f3_; have f4_ := f1_.symm; have f5_ := f3_.symm; clear f1_ f2_ f3_; subst f4_; subst f5_))
    obtain ⟨Ao51, co51, eo51⟩ := Kd.S_slice HO524.out
    (first | subst eo51 | (injection eo51 with f1_ f2_ f3_; have f4_ := f1_.symm; have f5_ := f3_.symm; clear f1_ f2_ f3_; subst f4_; subst f5_))
    obtain ⟨Ao52, co52, eo52⟩ := Kd.S_slice HO527.out
    (first | subst eo52 | (injection eo52 with f1_ f2_ f3_; have f4_ := f1_.symm; have f5_ := f3_.symm; clear f1_ f2_ f3_; subst f4_; subst f5_))
    refine hK.out _ _ ⟨(blk_cell BK500.out 0).trans rfl, (blk_cell BK500.out 1).trans rfl, (blk_cell BK500.out 2).trans rfl, (blk_cell BK500.out 3).trans rfl, (blk_cell BK500.out 4).trans rfl, (blk_cell BK500.out 5).trans rfl, (blk_cell BK500.out 6).trans rfl, (blk_cell BK500.out 7).trans rfl, (blk_cell BK500.out 8).trans rfl, (blk_cell BK500.out 9).trans rfl, (blk_cell BK500.out 10).trans rfl, (blk_cell BK443.out 0).trans rfl, (blk_cell BK443.out 1).trans rfl, (blk_cell BK443.out 2).trans rfl, (blk_cell BK443.out 3).trans rfl, (blk_cell BK443.out 4).trans rfl, (blk_cell BK443.out 5).trans rfl, (blk_cell BK443.out 6).trans rfl, (blk_cell BK443.out 7).trans rfl, (blk_cell BK443.out 8).trans rfl, (blk_cell BK443.out 9).trans rfl, (blk_cell BK443.out 10).trans rfl⟩ (fun hHeld => ?_)
    clear hK K
    refine norm_ (a' := ?_) ?_ ?_
    rotate_left
    ·show Act.put _ (some 24) _ = _
     simp only [Act.put, List.setIfInBounds_toArray, List.set_cons_zero, List.set_cons_succ, i64_w, i32_w]
     rfl
    refine one_ (i := 3) (N := some 25) (bt_ 5 15) rfl rfl (by kernel_rfl) (by decide) (fun K hK => ?_)
    refine goes_ Try.func19 (by kernel_rfl) rfl #[.agg #[.int .i64 t473, .int .i64 t474, .slice Ao34 t475.length co34, .slice Ao35 t478.length co35, .slice Ao36 t481.length co36, .slice Ao37 t484.length co37, .slice Ao38 t487.length co38, .slice Ao39 t490.length co39, .slice Ao40 t493.length co40, .slice Ao41 t496.length co41, .int .i64 t499], .agg #[.int .i64 t502, .int .i64 t503, .slice Ao45 t504.length co45, .slice Ao46 t507.length co46, .slice Ao47 t510.length co47, .slice Ao48 t513.length co48, .slice Ao49 t516.length co49, .slice Ao50 t519.length co50, .slice Ao51 t522.length co51, .slice Ao52 t525.length co52, .int .i64 t528]] (by rfl) rfl rfl (by (try simp only [List.map_toArray, List.map_cons, List.map_nil]); first | done | rfl | (simp only [List.length_drop, List.length_take]; rfl)) ?_
    with_reducible refine (laws_eqNet.calls k t473 t474 _ _ t475 _ _ t478 _ _ t481 _ _ t484 _ _ t487 _ _ t490 _ _ t493 _ _ t496 t499 t502 t503 _ _ t504 _ _ t507 _ _ t510 _ _ t513 _ _ t516 _ _ t519 _ _ t522 _ _ t525 t528 true _ ?side1 ?side2 ?side3 ?side4 ?side5 ?side6 ?side7 ?side8 ?side9 ?side10 ?side11 ?side12 ?side13 ?side14 ?side15 ?side16 ?side17 ?side18 ?side19 ?side20 ?side21 ?side22 ?side23 ?side24 ?side25 ?side26 ?side27 ?side28 ?side29 ?side30 ?side31 ?side32 A13.out).mono ?_
    (case side1 => repeat (first | exact (Kd.R_reads' HO477.out).2.2 | (with_reducible refine Kd.C_alloc ?_ _) | (with_reducible refine Kd.C_drewN ?_ _) | (with_reducible refine Kd.C_drew ?_)))
    (case side2 => exact (Kd.R_reads' HO477.out).2.1)
    (case side3 => repeat (first | exact (Kd.R_reads' HO480.out).2.2 | (with_reducible refine Kd.C_alloc ?_ _) | (with_reducible refine Kd.C_drewN ?_ _) | (with_reducible refine Kd.C_drew ?_)))
    (case side4 => exact (Kd.R_reads' HO480.out).2.1)
    (case side5 => repeat (first | exact (Kd.R_reads' HO483.out).2.2 | (with_reducible refine Kd.C_alloc ?_ _) | (with_reducible refine Kd.C_drewN ?_ _) | (with_reducible refine Kd.C_drew ?_)))
    (case side6 => exact (Kd.R_reads' HO483.out).2.1)
    (case side7 => repeat (first | exact (Kd.S_reads' HO486.out).2.2 | (with_reducible refine Kd.C_alloc ?_ _) | (with_reducible refine Kd.C_drewN ?_ _) | (with_reducible refine Kd.C_drew ?_)))
    (case side8 => exact (Kd.S_reads' HO486.out).2.1)
    (case side9 => repeat (first | exact (Kd.R_reads' HO489.out).2.2 | (with_reducible refine Kd.C_alloc ?_ _) | (with_reducible refine Kd.C_drewN ?_ _) | (with_reducible refine Kd.C_drew ?_)))
    (case side10 => exact (Kd.R_reads' HO489.out).2.1)
    (case side11 => repeat (first | exact (Kd.R_reads' HO492.out).2.2 | (with_reducible refine Kd.C_alloc ?_ _) | (with_reducible refine Kd.C_drewN ?_ _) | (with_reducible refine Kd.C_drew ?_)))
    (case side12 => exact (Kd.R_reads' HO492.out).2.1)
    (case side13 => repeat (first | exact (Kd.S_reads' HO495.out).2.2 | (with_reducible refine Kd.C_alloc ?_ _) | (with_reducible refine Kd.C_drewN ?_ _) | (with_reducible refine Kd.C_drew ?_)))
    (case side14 => exact (Kd.S_reads' HO495.out).2.1)
    (case side15 => repeat (first | exact (Kd.S_reads' HO498.out).2.2 | (with_reducible refine Kd.C_alloc ?_ _) | (with_reducible refine Kd.C_drewN ?_ _) | (with_reducible refine Kd.C_drew ?_)))
    (case side16 => exact (Kd.S_reads' HO498.out).2.1)
    (case side17 => repeat (first | exact (Kd.R_reads' HO506.out).2.2 | (with_reducible refine Kd.C_alloc ?_ _) | (with_reducible refine Kd.C_drewN ?_ _) | (with_reducible refine Kd.C_drew ?_)))
    (case side18 => exact (Kd.R_reads' HO506.out).2.1)
    (case side19 => repeat (first | exact (Kd.R_reads' HO509.out).2.2 | (with_reducible refine Kd.C_alloc ?_ _) | (with_reducible refine Kd.C_drewN ?_ _) | (with_reducible refine Kd.C_drew ?_)))
    (case side20 => exact (Kd.R_reads' HO509.out).2.1)
    (case side21 => repeat (first | exact (Kd.R_reads' HO512.out).2.2 | (with_reducible refine Kd.C_alloc ?_ _) | (with_reducible refine Kd.C_drewN ?_ _) | (with_reducible refine Kd.C_drew ?_)))
    (case side22 => exact (Kd.R_reads' HO512.out).2.1)
    (case side23 => repeat (first | exact (Kd.S_reads' HO515.out).2.2 | (with_reducible refine Kd.C_alloc ?_ _) | (with_reducible refine Kd.C_drewN ?_ _) | (with_reducible refine Kd.C_drew ?_)))
    (case side24 => exact (Kd.S_reads' HO515.out).2.1)
    (case side25 => repeat (first | exact (Kd.R_reads' HO518.out).2.2 | (with_reducible refine Kd.C_alloc ?_ _) | (with_reducible refine Kd.C_drewN ?_ _) | (with_reducible refine Kd.C_drew ?_)))
    (case side26 => exact (Kd.R_reads' HO518.out).2.1)
    (case side27 => repeat (first | exact (Kd.R_reads' HO521.out).2.2 | (with_reducible refine Kd.C_alloc ?_ _) | (with_reducible refine Kd.C_drewN ?_ _) | (with_reducible refine Kd.C_drew ?_)))
    (case side28 => exact (Kd.R_reads' HO521.out).2.1)
    (case side29 => repeat (first | exact (Kd.S_reads' HO524.out).2.2 | (with_reducible refine Kd.C_alloc ?_ _) | (with_reducible refine Kd.C_drewN ?_ _) | (with_reducible refine Kd.C_drew ?_)))
    (case side30 => exact (Kd.S_reads' HO524.out).2.1)
    (case side31 => repeat (first | exact (Kd.S_reads' HO527.out).2.2 | (with_reducible refine Kd.C_alloc ?_ _) | (with_reducible refine Kd.C_drewN ?_ _) | (with_reducible refine Kd.C_drew ?_)))
    (case side32 => exact (Kd.S_reads' HO527.out).2.1)
    rintro e w53 ⟨rfl, hb⟩
    refine ⟨_, rfl, ?_⟩
    have n0_ := Aside0.mk (Kd.R_below (ra_ HO449.out) hb)
    have n1_ := Aside0.mk (Kd.R_below (ra_ HO452.out) hb)
    have n2_ := Aside0.mk (Kd.R_below (ra_ HO455.out) hb)
    have n3_ := Aside0.mk (Kd.S_below (sa_ HO458.out) hb)
    have n4_ := Aside0.mk (Kd.R_below (ra_ HO461.out) hb)
    have n5_ := Aside0.mk (Kd.R_below (ra_ HO464.out) hb)
    have n6_ := Aside0.mk (Kd.S_below (sa_ HO467.out) hb)
    have n7_ := Aside0.mk (Kd.S_below (sa_ HO470.out) hb)
    have n8_ := Aside0.mk (Kd.R_below (ra_ HO477.out) hb)
    have n9_ := Aside0.mk (Kd.R_below (ra_ HO480.out) hb)
    have n10_ := Aside0.mk (Kd.R_below (ra_ HO483.out) hb)
    have n11_ := Aside0.mk (Kd.S_below (sa_ HO486.out) hb)
    have n12_ := Aside0.mk (Kd.R_below (ra_ HO489.out) hb)
    have n13_ := Aside0.mk (Kd.R_below (ra_ HO492.out) hb)
    have n14_ := Aside0.mk (Kd.S_below (sa_ HO495.out) hb)
    have n15_ := Aside0.mk (Kd.S_below (sa_ HO498.out) hb)
    have n16_ := Aside0.mk (Kd.R_below (ra_ HO506.out) hb)
    have n17_ := Aside0.mk (Kd.R_below (ra_ HO509.out) hb)
    have n18_ := Aside0.mk (Kd.R_below (ra_ HO512.out) hb)
    have n19_ := Aside0.mk (Kd.S_below (sa_ HO515.out) hb)
    have n20_ := Aside0.mk (Kd.R_below (ra_ HO518.out) hb)
    have n21_ := Aside0.mk (Kd.R_below (ra_ HO521.out) hb)
    have n22_ := Aside0.mk (Kd.S_below (sa_ HO524.out) hb)
    have n23_ := Aside0.mk (Kd.S_below (sa_ HO527.out) hb)
    have n24_ := Aside0.mk (bk_ BK443.out hb)
    have n25_ := Aside0.mk (bk_ BK500.out hb)
    have n26_ := Aside0.mk (bs_ HB.out hb)
    clear HO449
    clear HO452
    clear HO455
    clear HO458
    clear HO461
    clear HO464
    clear HO467
    clear HO470
    clear HO477
    clear HO480
    clear HO483
    clear HO486
    clear HO489
    clear HO492
    clear HO495
    clear HO498
    clear HO506
    clear HO509
    clear HO512
    clear HO515
    clear HO518
    clear HO521
    clear HO524
    clear HO527
    clear BK443
    clear BK500
    clear HB
    have HO449 := n0_
    have HO452 := n1_
    have HO455 := n2_
    have HO458 := n3_
    have HO461 := n4_
    have HO464 := n5_
    have HO467 := n6_
    have HO470 := n7_
    have HO477 := n8_
    have HO480 := n9_
    have HO483 := n10_
    have HO486 := n11_
    have HO489 := n12_
    have HO492 := n13_
    have HO495 := n14_
    have HO498 := n15_
    have HO506 := n16_
    have HO509 := n17_
    have HO512 := n18_
    have HO515 := n19_
    have HO518 := n20_
    have HO521 := n21_
    have HO524 := n22_
    have HO527 := n23_
    have BK443 := n24_
    have BK500 := n25_
    have HB := n26_
    clear n0_ n1_ n2_ n3_ n4_ n5_ n6_ n7_ n8_ n9_ n10_ n11_ n12_ n13_ n14_ n15_ n16_ n17_ n18_ n19_ n20_ n21_ n22_ n23_ n24_ n25_ n26_
    (try clear hb)
    (try clear hb2)
    (try clear hk)
    (try clear hi)
    refine hK.out _ _ ⟨(blk_cell BK500.out 0).trans rfl, (blk_cell BK500.out 1).trans rfl, (blk_cell BK500.out 2).trans rfl, (blk_cell BK500.out 3).trans rfl, (blk_cell BK500.out 4).trans rfl, (blk_cell BK500.out 5).trans rfl, (blk_cell BK500.out 6).trans rfl, (blk_cell BK500.out 7).trans rfl, (blk_cell BK500.out 8).trans rfl, (blk_cell BK500.out 9).trans rfl, (blk_cell BK500.out 10).trans rfl, (blk_cell BK443.out 0).trans rfl, (blk_cell BK443.out 1).trans rfl, (blk_cell BK443.out 2).trans rfl, (blk_cell BK443.out 3).trans rfl, (blk_cell BK443.out 4).trans rfl, (blk_cell BK443.out 5).trans rfl, (blk_cell BK443.out 6).trans rfl, (blk_cell BK443.out 7).trans rfl, (blk_cell BK443.out 8).trans rfl, (blk_cell BK443.out 9).trans rfl, (blk_cell BK443.out 10).trans rfl⟩ (fun hHeld => ?_)
    clear hK K
    refine norm_ (a' := ?_) ?_ ?_
    rotate_left
    ·show Act.put _ (some 25) _ = _
     simp only [Act.put, List.setIfInBounds_toArray, List.set_cons_zero, List.set_cons_succ, i64_w, i32_w]
     rfl
    refine pure_ (i := 4) (N := some 26) (v := ?_) (a' := ?_) (bt_ 5 31) rfl rfl (by kernel_rfl) (fun _ _ _ h => h) (Or.inl ⟨by rfl, ?_⟩) ?_ ?_
    rotate_left
    ·intro w'
     go_simp
     with_reducible rfl
    rotate_left
    ·simp only [Act.put, List.setIfInBounds_toArray, List.set_cons_zero, List.set_cons_succ, i64_w, i32_w]
     rfl
    refine done_ (by kernel_rfl) ?_
    try go_wp2
    go_ret
    exact ⟨fin_, bb_ HB.out⟩
   ·replace c14 := Bool.eq_false_iff.mpr c14
    subst c14
    rw [if_neg (show ¬ (false = true) by decide)] at H
    exact absurd H (by simp)
  ·rw [if_neg c11] at H
   exact absurd H (by simp)

end Go.Proofs.Ythmfjdanmbcgbaa.PFnExactTotalCredit
-- thin
