/- Each function that the law comes to, as a plain function, with the proof that the call in the model gives what that function says (written by a program of this session out of the translation). No condition. -/
import Derived.Test.YthmfjdanmbcgbaaPFnExactIsRequestx0
import Derived.Test.YthmfjdanmbcgbaaPFnExactIsRequestx3
import Derived.Test.YthmfjdanmbcgbaaPFnExactIsRequestx4
import Derived.Test.YthmfjdanmbcgbaaPFnExactIsRequestx6
import Derived.Test.YthmfjdanmbcgbaaPFnExactIsRequestx8
namespace Go.Proofs.Ythmfjdanmbcgbaa.PFnExactIsRequest
open Go.RowKit Go.Proofs.YthmfjdanmbcgbaaW.PrintWords Go.Proofs.YthmfjdanmbcgbaaW.PrintLast Go.Proofs.YthmfjdanmbcgbaaW.PrintMore
attribute [local go_sem] max2_int min2_int max_two min_two max_three min_three max_four min_four   -- for this text's walks alone
set_option linter.unusedVariables false
set_option linter.unusedSimpArgs false

/-! ### spec_l17Ok: function 62 -/
def spec_l17Ok.f (k : Nat) (a0_0 : Int) (a0_1 : Int) (l0_2 : List Int) (l0_3 : List Int) (l0_4 : List Int) (l0_5 : List (List (S97))) (l0_6 : List Int) (l0_7 : List Int) (l0_8 : List (List (S97))) (l0_9 : List (List (S97))) (a0_10 : Int) (a1 : Int) (a2 : Int) : Option (Bool) := (spec_NetOk.f k a0_0 a0_1 l0_2 l0_3 l0_4 l0_5 l0_6 l0_7 l0_8 l0_9 a0_10).bind fun t324 => (if t324 = true then ((spec_l02Has.f a0_0 a0_1 a1).bind fun t325 => (if t325 = true then ((spec_l01In.f a2 0 4).bind fun t326 => (some t326)) else (some false))) else (some false))
theorem spec_l17Ok.mono : ∀ a0 a1 a2 a3 a4 a5 a6 a7 a8 a9 a10 a11 a12 k, LeO (spec_l17Ok.f k a0 a1 a2 a3 a4 a5 a6 a7 a8 a9 a10 a11 a12) (spec_l17Ok.f (k + 1) a0 a1 a2 a3 a4 a5 a6 a7 a8 a9 a10 a11 a12) := by
 intro a0 a1 a2 a3 a4 a5 a6 a7 a8 a9 a10 a11 a12 k
 unfold spec_l17Ok.f
 repeat' first
   | (with_reducible exact spec_NetOk.mono _ _ _ _ _ _ _ _ _ _ _ _)
   | (with_reducible exact LeO.refl _)
   | (with_reducible exact LeO.none _)
   | (with_reducible refine LeO.ite ?_ ?_)
   | (with_reducible refine LeO.bind ?_ (fun _ => ?_))
   | exact spec_NetOk.mono _ _ _ _ _ _ _ _ _ _ _ _
   | exact LeO.none _
   | refine LeO.ite ?_ ?_
   | refine LeO.bind ?_ (fun _ => ?_)
theorem spec_l17Ok.e0 {P : Prop} (h : P := by
 go_enter Try.func62, Try.ntmps62
 go_wp2_with (first | ((with_reducible refine gate_dst (N := 3) rfl ?_); refine box_event ?hg (N := 3) ?hd (cs := #[.int .i64 a0_0, .int .i64 a0_1, .slice A0_2 l0_2.length c0_2, .slice A0_3 l0_3.length c0_3, .slice A0_4 l0_4.length c0_4, .slice A0_5 l0_5.length c0_5, .slice A0_6 l0_6.length c0_6, .slice A0_7 l0_7.length c0_7, .slice A0_8 l0_8.length c0_8, .slice A0_9 l0_9.length c0_9, .int .i64 a0_10]) (t := 44) ?hr ?_; (case hd => rfl); (case hg => rfl); (case hr => first | (go_simp; done) | (go_simp; rfl)); intro gb323 hg w_0 hbox hb; have BK323 := Aside0.mk (hbox); have GW323 := Aside0.mk ((by rw [hg]; exact (bz_ HB.out) : w.heap.size ≤ gb323)); have GE323 := Aside0.mk ((by rw [hg]; exact (bz_ HB.out) : w.heap.size ≤ gb323)); replace HB := Aside0.mk (bs_ HB.out hb); clear hb hbox hg; obtain ⟨hcz_0, hcz_1, hcz_2, hcz_3, hcz_4, hcz_5, hcz_6, hcz_7, hcz_8, hcz_9, hcz_10, hfz_0, hfz_1, hfz_2, hfz_3, hfz_4, hfz_5, hfz_6, hfz_7, hfz_8, hfz_9, hfz_10⟩ := cz11_ BK323.out) | ((with_reducible refine gate_callee (f := 51) rfl ?_); refine gm_ (some 8) Try.func51 #[.agg #[.int .i64 a0_0, .int .i64 a0_1, .slice A0_2 l0_2.length c0_2, .slice A0_3 l0_3.length c0_3, .slice A0_4 l0_4.length c0_4, .slice A0_5 l0_5.length c0_5, .slice A0_6 l0_6.length c0_6, .slice A0_7 l0_7.length c0_7, .slice A0_8 l0_8.length c0_8, .slice A0_9 l0_9.length c0_9, .int .i64 a0_10]] rfl ?_; (with_reducible refine (spec_NetOk.calls k a0_0 a0_1 _ _ l0_2 _ _ l0_3 _ _ l0_4 _ _ l0_5 _ _ l0_6 _ _ l0_7 _ _ l0_8 _ _ l0_9 a0_10 _ _ ?side1 HC0_2.out ?side3 HC0_3.out ?side5 HC0_4.out ?side7 HC0_5.out ?side9 HC0_6.out ?side11 HC0_7.out ?side13 HC0_8.out ?side15 HC0_9.out A4.out).mono ?_); (case side1 => exact cb_ HR0_2.out HB.out); (case side3 => exact cb_ HR0_3.out HB.out); (case side5 => exact cb_ HR0_4.out HB.out); (case side7 => exact cb_ HR0_5.out HB.out); (case side9 => exact cb_ HR0_6.out HB.out); (case side11 => exact cb_ HR0_7.out HB.out); (case side13 => exact cb_ HR0_8.out HB.out); (case side15 => exact cb_ HR0_9.out HB.out); rintro e w_0 ⟨rfl, hb⟩; refine ⟨_, rfl, ?_⟩; replace BK323 := Aside0.mk (bk_ BK323.out hb); replace HB := Aside0.mk (bs_ HB.out hb); (try clear hb); obtain ⟨hcz_0, hcz_1, hcz_2, hcz_3, hcz_4, hcz_5, hcz_6, hcz_7, hcz_8, hcz_9, hcz_10, hfz_0, hfz_1, hfz_2, hfz_3, hfz_4, hfz_5, hfz_6, hfz_7, hfz_8, hfz_9, hfz_10⟩ := cz11_ BK323.out) | (go_at_call 101; (with_reducible refine (spec_l02Has.calls a0_0 a0_1 a1 _ _ A6.out).mono ?_); rintro e w_0 ⟨rfl, hb⟩; replace BK323 := Aside0.mk (bk_ BK323.out hb); replace HB := Aside0.mk (bs_ HB.out hb); (try clear hb)) | (go_at_call 63; (with_reducible refine (spec_l01In.calls a2 0 4 t326 _ A8.out).mono ?_); rintro e w' ⟨rfl, ⟨nd, rfl⟩⟩))
 go_ret
 exact ⟨fin_, bb_ HB.out⟩) : P := h
set_option maxHeartbeats 8000000 in
set_option maxRecDepth 100000 in
theorem spec_l17Ok.calls (k : Nat) (a0_0 : Int) (a0_1 : Int) (A0_2 : Option Addr) (c0_2 : Nat) (l0_2 : List Int) (A0_3 : Option Addr) (c0_3 : Nat) (l0_3 : List Int) (A0_4 : Option Addr) (c0_4 : Nat) (l0_4 : List Int) (A0_5 : Option Addr) (c0_5 : Nat) (l0_5 : List (List (S97))) (A0_6 : Option Addr) (c0_6 : Nat) (l0_6 : List Int) (A0_7 : Option Addr) (c0_7 : Nat) (l0_7 : List Int) (A0_8 : Option Addr) (c0_8 : Nat) (l0_8 : List (List (S97))) (A0_9 : Option Addr) (c0_9 : Nat) (l0_9 : List (List (S97))) (a0_10 : Int) (a1 : Int) (a2 : Int) (r : Bool) (w : World) (hr0_2 : Kd.C (Kd.int .i64) w A0_2 l0_2.length l0_2) (hc0_2 : l0_2.length ≤ c0_2) (hr0_3 : Kd.C (Kd.int .i64) w A0_3 l0_3.length l0_3) (hc0_3 : l0_3.length ≤ c0_3) (hr0_4 : Kd.C (Kd.int .i64) w A0_4 l0_4.length l0_4) (hc0_4 : l0_4.length ≤ c0_4) (hr0_5 : Kd.C (Kd.slice 97 k97) w A0_5 l0_5.length l0_5) (hc0_5 : l0_5.length ≤ c0_5) (hr0_6 : Kd.C (Kd.int .i64) w A0_6 l0_6.length l0_6) (hc0_6 : l0_6.length ≤ c0_6) (hr0_7 : Kd.C (Kd.int .i64) w A0_7 l0_7.length l0_7) (hc0_7 : l0_7.length ≤ c0_7) (hr0_8 : Kd.C (Kd.slice 97 k97) w A0_8 l0_8.length l0_8) (hc0_8 : l0_8.length ≤ c0_8) (hr0_9 : Kd.C (Kd.slice 97 k97) w A0_9 l0_9.length l0_9) (hc0_9 : l0_9.length ≤ c0_9) (h : spec_l17Ok.f k a0_0 a0_1 l0_2 l0_3 l0_4 l0_5 l0_6 l0_7 l0_8 l0_9 a0_10 a1 a2 = some r) :
  Calls Try.prog 62 #[.agg #[.int .i64 a0_0, .int .i64 a0_1, .slice A0_2 l0_2.length c0_2, .slice A0_3 l0_3.length c0_3, .slice A0_4 l0_4.length c0_4, .slice A0_5 l0_5.length c0_5, .slice A0_6 l0_6.length c0_6, .slice A0_7 l0_7.length c0_7, .slice A0_8 l0_8.length c0_8, .slice A0_9 l0_9.length c0_9, .int .i64 a0_10], .int .i64 a1, .int .i64 a2] w fun e w' => e = .returned (.bool r) ∧ Below w.heap.size w w' := by
 have hu44 := Try.underlying44
 have hu36 := Try.underlying36
 have HR0_2 := Aside0.mk hr0_2
 have HC0_2 := Aside0.mk hc0_2
 clear hr0_2 hc0_2
 have HR0_3 := Aside0.mk hr0_3
 have HC0_3 := Aside0.mk hc0_3
 clear hr0_3 hc0_3
 have HR0_4 := Aside0.mk hr0_4
 have HC0_4 := Aside0.mk hc0_4
 clear hr0_4 hc0_4
 have HR0_5 := Aside0.mk hr0_5
 have HC0_5 := Aside0.mk hc0_5
 clear hr0_5 hc0_5
 have HR0_6 := Aside0.mk hr0_6
 have HC0_6 := Aside0.mk hc0_6
 clear hr0_6 hc0_6
 have HR0_7 := Aside0.mk hr0_7
 have HC0_7 := Aside0.mk hc0_7
 clear hr0_7 hc0_7
 have HR0_8 := Aside0.mk hr0_8
 have HC0_8 := Aside0.mk hc0_8
 clear hr0_8 hc0_8
 have HR0_9 := Aside0.mk hr0_9
 have HC0_9 := Aside0.mk hc0_9
 clear hr0_9 hc0_9
 have HB := Aside0.mk (Below.refl w.heap.size w)
 have H : ((spec_NetOk.f k a0_0 a0_1 l0_2 l0_3 l0_4 l0_5 l0_6 l0_7 l0_8 l0_9 a0_10).bind fun t324 => (if t324 = true then ((spec_l02Has.f a0_0 a0_1 a1).bind fun t325 => (if t325 = true then ((spec_l01In.f a2 0 4).bind fun t326 => (some t326)) else (some false))) else (some false))) = some r := h
 clear h
 replace H := Option.bind_eq_some_iff.mp H
 obtain ⟨t324, A40, H⟩ := H
 try dsimp only at H
 have A4 := Aside0.mk A40
 clear A40
 by_cases c5 : t324 = true
 ·subst c5
  rw [if_pos rfl] at H
  replace H := Option.bind_eq_some_iff.mp H
  obtain ⟨t325, A60, H⟩ := H
  try dsimp only at H
  have A6 := Aside0.mk A60
  clear A60
  by_cases c7 : t325 = true
  ·subst c7
   rw [if_pos rfl] at H
   replace H := Option.bind_eq_some_iff.mp H
   obtain ⟨t326, A80, H⟩ := H
   try dsimp only at H
   have A8 := Aside0.mk A80
   clear A80
   obtain rfl := Option.some.inj H
   exact spec_l17Ok.e0
  ·replace c7 := Bool.eq_false_iff.mpr c7
   subst c7
   rw [if_neg (show ¬ (false = true) by decide)] at H
   obtain rfl := Option.some.inj H
   exact spec_l17Ok.e0
 ·replace c5 := Bool.eq_false_iff.mpr c5
  subst c5
  rw [if_neg (show ¬ (false = true) by decide)] at H
  obtain rfl := Option.some.inj H
  exact spec_l17Ok.e0

/-! ### spec_Opposite: function 104 -/
def spec_Opposite.f (a0 : Int) : Option (Int) := if a0 = 4 then (some 4) else ((spec_l01In.f a0 0 3).bind fun t327 => (if t327 = true then (some (Int.tmod (wrap64 (a0 + 2)) 4)) else (some (-1))))
theorem spec_Opposite.e0 {P : Prop} (h : P := by
 go_enter Try.func104, Try.ntmps104
 go_wp2_with (first | ((with_reducible refine gate_callee (f := 63) rfl ?_); refine gm_ (some 6) Try.func63 #[.int .i64 a0, .int .i64 0, .int .i64 3] rfl ?_; (with_reducible refine (spec_l01In.calls a0 0 3 _ _ A3.out).mono ?_); rintro e w' ⟨rfl, ⟨nd, rfl⟩⟩; refine ⟨_, rfl, ?_⟩))
 go_ret
 exact ⟨by first | rfl | (simp; done) | (simp [*]; done), by repeat (first | exact Drawn0.refl _ | apply Drawn0.step)⟩) : P := h
set_option maxHeartbeats 8000000 in
set_option maxRecDepth 100000 in
theorem spec_Opposite.calls (a0 : Int) (r : Int) (w : World) (h : spec_Opposite.f a0 = some r) :
  Calls Try.prog 104 #[.int .i64 a0] w fun e w' => e = .returned (.int .i64 r) ∧ Drawn0 w w' := by
 have H : (if a0 = 4 then (some 4) else ((spec_l01In.f a0 0 3).bind fun t327 => (if t327 = true then (some (Int.tmod (wrap64 (a0 + 2)) 4)) else (some (-1))))) = some r := h
 clear h
 by_cases c2 : a0 = 4
 ·rw [if_pos c2] at H
  have c2b0 : (a0 == 4) = true := beq_iff_eq.mpr c2
  have c2b1 : (a0 != 4) = false := bne_eq_false_iff_eq.mpr c2
  clear c2
  obtain rfl := Option.some.inj H
  exact spec_Opposite.e0
 ·rw [if_neg c2] at H
  have c2b0 : (a0 == 4) = false := beq_eq_false_iff_ne.mpr c2
  have c2b1 : (a0 != 4) = true := bne_iff_ne.mpr c2
  replace H := Option.bind_eq_some_iff.mp H
  obtain ⟨t327, A30, H⟩ := H
  try dsimp only at H
  have A3 := Aside0.mk A30
  clear A30
  by_cases c4 : t327 = true
  ·subst c4
   rw [if_pos rfl] at H
   obtain rfl := Option.some.inj H
   exact spec_Opposite.e0
  ·replace c4 := Bool.eq_false_iff.mpr c4
   subst c4
   rw [if_neg (show ¬ (false = true) by decide)] at H
   obtain rfl := Option.some.inj H
   exact spec_Opposite.e0

/-! ### spec_l17Room: function 64 -/
def spec_l17Room.f (k : Nat) (a0_0 : Int) (a0_1 : Int) (l0_2 : List Int) (l0_3 : List Int) (l0_4 : List Int) (l0_5 : List (List (S97))) (l0_6 : List Int) (l0_7 : List Int) (l0_8 : List (List (S97))) (l0_9 : List (List (S97))) (a0_10 : Int) (a1 : Int) (a2 : Int) (a3 : Int) : Option (Bool) := if a2 = 4 then (some true) else ((spec_l03Has.f k a0_0 a0_1 l0_2 (wrap64 ((wrap64 (4 * a1)) + a2))).bind fun t329 => (if t329 = true then ((spec_NextNode.f a0_0 a0_1 a1 a2).bind fun t330 => ((spec_Opposite.f a2).bind fun t331 => (if 0 ≤ (wrap64 ((wrap64 ((wrap64 (10 * t330)) + (wrap64 (2 * t331)))) + a3)) then (if (wrap64 ((wrap64 ((wrap64 (10 * t330)) + (wrap64 (2 * t331)))) + a3)) < (l0_5.length : Int) then (some (decide (((rd_L5 l0_5 (wrap64 ((wrap64 ((wrap64 (10 * t330)) + (wrap64 (2 * t331)))) + a3))).length : Int) < 3))) else (none)) else (none)))) else (some false)))
theorem spec_l17Room.mono : ∀ a0 a1 a2 a3 a4 a5 a6 a7 a8 a9 a10 a11 a12 a13 k, LeO (spec_l17Room.f k a0 a1 a2 a3 a4 a5 a6 a7 a8 a9 a10 a11 a12 a13) (spec_l17Room.f (k + 1) a0 a1 a2 a3 a4 a5 a6 a7 a8 a9 a10 a11 a12 a13) := by
 intro a0 a1 a2 a3 a4 a5 a6 a7 a8 a9 a10 a11 a12 a13 k
 unfold spec_l17Room.f
 repeat' first
   | (with_reducible exact spec_l03Has.mono _ _ _ _ _)
   | (with_reducible exact LeO.refl _)
   | (with_reducible exact LeO.none _)
   | (with_reducible refine LeO.ite ?_ ?_)
   | (with_reducible refine LeO.bind ?_ (fun _ => ?_))
   | exact spec_l03Has.mono _ _ _ _ _
   | exact LeO.none _
   | refine LeO.ite ?_ ?_
   | refine LeO.bind ?_ (fun _ => ?_)
set_option maxHeartbeats 8000000 in
set_option maxRecDepth 100000 in
theorem spec_l17Room.calls (k : Nat) (a0_0 : Int) (a0_1 : Int) (A0_2 : Option Addr) (c0_2 : Nat) (l0_2 : List Int) (A0_3 : Option Addr) (c0_3 : Nat) (l0_3 : List Int) (A0_4 : Option Addr) (c0_4 : Nat) (l0_4 : List Int) (A0_5 : Option Addr) (c0_5 : Nat) (l0_5 : List (List (S97))) (A0_6 : Option Addr) (c0_6 : Nat) (l0_6 : List Int) (A0_7 : Option Addr) (c0_7 : Nat) (l0_7 : List Int) (A0_8 : Option Addr) (c0_8 : Nat) (l0_8 : List (List (S97))) (A0_9 : Option Addr) (c0_9 : Nat) (l0_9 : List (List (S97))) (a0_10 : Int) (a1 : Int) (a2 : Int) (a3 : Int) (r : Bool) (w : World) (hr0_2 : Kd.C (Kd.int .i64) w A0_2 l0_2.length l0_2) (hc0_2 : l0_2.length ≤ c0_2) (hr0_3 : Kd.C (Kd.int .i64) w A0_3 l0_3.length l0_3) (hc0_3 : l0_3.length ≤ c0_3) (hr0_4 : Kd.C (Kd.int .i64) w A0_4 l0_4.length l0_4) (hc0_4 : l0_4.length ≤ c0_4) (hr0_5 : Kd.C (Kd.slice 97 k97) w A0_5 l0_5.length l0_5) (hc0_5 : l0_5.length ≤ c0_5) (hr0_6 : Kd.C (Kd.int .i64) w A0_6 l0_6.length l0_6) (hc0_6 : l0_6.length ≤ c0_6) (hr0_7 : Kd.C (Kd.int .i64) w A0_7 l0_7.length l0_7) (hc0_7 : l0_7.length ≤ c0_7) (hr0_8 : Kd.C (Kd.slice 97 k97) w A0_8 l0_8.length l0_8) (hc0_8 : l0_8.length ≤ c0_8) (hr0_9 : Kd.C (Kd.slice 97 k97) w A0_9 l0_9.length l0_9) (hc0_9 : l0_9.length ≤ c0_9) (h : spec_l17Room.f k a0_0 a0_1 l0_2 l0_3 l0_4 l0_5 l0_6 l0_7 l0_8 l0_9 a0_10 a1 a2 a3 = some r) :
  Calls Try.prog 64 #[.agg #[.int .i64 a0_0, .int .i64 a0_1, .slice A0_2 l0_2.length c0_2, .slice A0_3 l0_3.length c0_3, .slice A0_4 l0_4.length c0_4, .slice A0_5 l0_5.length c0_5, .slice A0_6 l0_6.length c0_6, .slice A0_7 l0_7.length c0_7, .slice A0_8 l0_8.length c0_8, .slice A0_9 l0_9.length c0_9, .int .i64 a0_10], .int .i64 a1, .int .i64 a2, .int .i64 a3] w fun e w' => e = .returned (.bool r) ∧ Below w.heap.size w w' := by
 have hu44 := Try.underlying44
 have hu38 := Try.underlying38
 have hu36 := Try.underlying36
 have HR0_2 := Aside0.mk hr0_2
 have HC0_2 := Aside0.mk hc0_2
 clear hr0_2 hc0_2
 have HR0_3 := Aside0.mk hr0_3
 have HC0_3 := Aside0.mk hc0_3
 clear hr0_3 hc0_3
 have HR0_4 := Aside0.mk hr0_4
 have HC0_4 := Aside0.mk hc0_4
 clear hr0_4 hc0_4
 have HR0_5 := Aside0.mk hr0_5
 have HC0_5 := Aside0.mk hc0_5
 clear hr0_5 hc0_5
 have HR0_6 := Aside0.mk hr0_6
 have HC0_6 := Aside0.mk hc0_6
 clear hr0_6 hc0_6
 have HR0_7 := Aside0.mk hr0_7
 have HC0_7 := Aside0.mk hc0_7
 clear hr0_7 hc0_7
 have HR0_8 := Aside0.mk hr0_8
 have HC0_8 := Aside0.mk hc0_8
 clear hr0_8 hc0_8
 have HR0_9 := Aside0.mk hr0_9
 have HC0_9 := Aside0.mk hc0_9
 clear hr0_9 hc0_9
 have HB := Aside0.mk (Below.refl w.heap.size w)
 have H : (if a2 = 4 then (some true) else ((spec_l03Has.f k a0_0 a0_1 l0_2 (wrap64 ((wrap64 (4 * a1)) + a2))).bind fun t329 => (if t329 = true then ((spec_NextNode.f a0_0 a0_1 a1 a2).bind fun t330 => ((spec_Opposite.f a2).bind fun t331 => (if 0 ≤ (wrap64 ((wrap64 ((wrap64 (10 * t330)) + (wrap64 (2 * t331)))) + a3)) then (if (wrap64 ((wrap64 ((wrap64 (10 * t330)) + (wrap64 (2 * t331)))) + a3)) < (l0_5.length : Int) then (some (decide (((rd_L5 l0_5 (wrap64 ((wrap64 ((wrap64 (10 * t330)) + (wrap64 (2 * t331)))) + a3))).length : Int) < 3))) else (none)) else (none)))) else (some false)))) = some r := h
 clear h
 by_cases c5 : a2 = 4
 ·rw [if_pos c5] at H
  have c5b0 : (a2 == 4) = true := beq_iff_eq.mpr c5
  have c5b1 : (a2 != 4) = false := bne_eq_false_iff_eq.mpr c5
  clear c5
  obtain rfl := Option.some.inj H
  go_enter Try.func64, Try.ntmps64
  go_wp2_with (first | ((with_reducible refine gate_dst (N := 4) rfl ?_); refine box_event ?hg (N := 4) ?hd (cs := #[.int .i64 a0_0, .int .i64 a0_1, .slice A0_2 l0_2.length c0_2, .slice A0_3 l0_3.length c0_3, .slice A0_4 l0_4.length c0_4, .slice A0_5 l0_5.length c0_5, .slice A0_6 l0_6.length c0_6, .slice A0_7 l0_7.length c0_7, .slice A0_8 l0_8.length c0_8, .slice A0_9 l0_9.length c0_9, .int .i64 a0_10]) (t := 44) ?hr ?_; (case hd => rfl); (case hg => rfl); (case hr => first | (go_simp; done) | (go_simp; rfl)); intro gb328 hg w6 hbox hb; have BK328 := Aside0.mk (hbox); have GW328 := Aside0.mk ((by rw [hg]; exact (bz_ HB.out) : w.heap.size ≤ gb328)); have GE328 := Aside0.mk ((by rw [hg]; exact (bz_ HB.out) : w.heap.size ≤ gb328)); replace HB := Aside0.mk (bs_ HB.out hb); clear hb hbox hg))
  repeat (go_quiet (first | ((with_reducible refine gate_dst (N := 4) rfl ?_); refine box_event ?hg (N := 4) ?hd (cs := #[.int .i64 a0_0, .int .i64 a0_1, .slice A0_2 l0_2.length c0_2, .slice A0_3 l0_3.length c0_3, .slice A0_4 l0_4.length c0_4, .slice A0_5 l0_5.length c0_5, .slice A0_6 l0_6.length c0_6, .slice A0_7 l0_7.length c0_7, .slice A0_8 l0_8.length c0_8, .slice A0_9 l0_9.length c0_9, .int .i64 a0_10]) (t := 44) ?hr ?_; (case hd => rfl); (case hg => rfl); (case hr => first | (go_simp; done) | (go_simp; rfl)); intro gb328 hg w6 hbox hb; have BK328 := Aside0.mk (hbox); have GW328 := Aside0.mk ((by rw [hg]; exact (bz_ HB.out) : w.heap.size ≤ gb328)); have GE328 := Aside0.mk ((by rw [hg]; exact (bz_ HB.out) : w.heap.size ≤ gb328)); replace HB := Aside0.mk (bs_ HB.out hb); clear hb hbox hg)); try go_wp2_with (first | ((with_reducible refine gate_dst (N := 4) rfl ?_); refine box_event ?hg (N := 4) ?hd (cs := #[.int .i64 a0_0, .int .i64 a0_1, .slice A0_2 l0_2.length c0_2, .slice A0_3 l0_3.length c0_3, .slice A0_4 l0_4.length c0_4, .slice A0_5 l0_5.length c0_5, .slice A0_6 l0_6.length c0_6, .slice A0_7 l0_7.length c0_7, .slice A0_8 l0_8.length c0_8, .slice A0_9 l0_9.length c0_9, .int .i64 a0_10]) (t := 44) ?hr ?_; (case hd => rfl); (case hg => rfl); (case hr => first | (go_simp; done) | (go_simp; rfl)); intro gb328 hg w6 hbox hb; have BK328 := Aside0.mk (hbox); have GW328 := Aside0.mk ((by rw [hg]; exact (bz_ HB.out) : w.heap.size ≤ gb328)); have GE328 := Aside0.mk ((by rw [hg]; exact (bz_ HB.out) : w.heap.size ≤ gb328)); replace HB := Aside0.mk (bs_ HB.out hb); clear hb hbox hg)))
  go_ret
  exact ⟨fin_, bb_ HB.out⟩
 ·rw [if_neg c5] at H
  have c5b0 : (a2 == 4) = false := beq_eq_false_iff_ne.mpr c5
  have c5b1 : (a2 != 4) = true := bne_iff_ne.mpr c5
  replace H := Option.bind_eq_some_iff.mp H
  obtain ⟨t329, A70, H⟩ := H
  try dsimp only at H
  have A7 := Aside0.mk A70
  clear A70
  by_cases c8 : t329 = true
  ·subst c8
   rw [if_pos rfl] at H
   replace H := Option.bind_eq_some_iff.mp H
   obtain ⟨t330, A90, H⟩ := H
   try dsimp only at H
   have A9 := Aside0.mk A90
   clear A90
   replace H := Option.bind_eq_some_iff.mp H
   obtain ⟨t331, A100, H⟩ := H
   try dsimp only at H
   have A10 := Aside0.mk A100
   clear A100
   obtain ⟨ji11, hji11⟩ : ∃ j_ : Int, (wrap64 ((wrap64 ((wrap64 (10 * t330)) + (wrap64 (2 * t331)))) + a3)) = j_ := ⟨_, rfl⟩
   replace H : (if 0 ≤ (ji11) then (if (ji11) < (l0_5.length : Int) then (some (decide (((rd_L5 l0_5 (ji11)).length : Int) < 3))) else (none)) else (none)) = some r := by first | (rw [hji11] at H; exact H) | (simp only [hji11] at H ⊢; exact H)
   (try rw [hji11] at A7)
   (try rw [hji11] at A9)
   (try rw [hji11] at A10)
   have hji11w : (IntKind.i64.wrap ((wrap64 ((wrap64 (10 * t330)) + (wrap64 (2 * t331)))) + a3)) = ji11 := (i64_w _).trans hji11
   by_cases c12 : 0 ≤ (ji11)
   ·rw [if_pos c12] at H
    have c12b0 : decide (0 ≤ (ji11)) = true := decide_eq_true c12
    clear c12
    by_cases c13 : (ji11) < (l0_5.length : Int)
    ·rw [if_pos c13] at H
     have c13b0 : decide ((ji11) < (l0_5.length : Int)) = true := decide_eq_true c13
     clear c13
     obtain rfl := Option.some.inj H
     go_enter Try.func64, Try.ntmps64
     go_wp2_with (first | ((with_reducible refine gate_dst (N := 4) rfl ?_); refine box_event ?hg (N := 4) ?hd (cs := #[.int .i64 a0_0, .int .i64 a0_1, .slice A0_2 l0_2.length c0_2, .slice A0_3 l0_3.length c0_3, .slice A0_4 l0_4.length c0_4, .slice A0_5 l0_5.length c0_5, .slice A0_6 l0_6.length c0_6, .slice A0_7 l0_7.length c0_7, .slice A0_8 l0_8.length c0_8, .slice A0_9 l0_9.length c0_9, .int .i64 a0_10]) (t := 44) ?hr ?_; (case hd => rfl); (case hg => rfl); (case hr => first | (go_simp; done) | (go_simp; rfl)); intro gb328 hg w14 hbox hb; have BK328 := Aside0.mk (hbox); have GW328 := Aside0.mk ((by rw [hg]; exact (bz_ HB.out) : w.heap.size ≤ gb328)); have GE328 := Aside0.mk ((by rw [hg]; exact (bz_ HB.out) : w.heap.size ≤ gb328)); replace HB := Aside0.mk (bs_ HB.out hb); clear hb hbox hg; obtain ⟨hcz15_0, hcz15_1, hcz15_2, hcz15_3, hcz15_4, hcz15_5, hcz15_6, hcz15_7, hcz15_8, hcz15_9, hcz15_10, hfz15_0, hfz15_1, hfz15_2, hfz15_3, hfz15_4, hfz15_5, hfz15_6, hfz15_7, hfz15_8, hfz15_9, hfz15_10⟩ := cz11_ BK328.out) | (go_at_call 102; (with_reducible refine (spec_l03Has.calls k a0_0 a0_1 _ _ l0_2 (wrap64 ((wrap64 (4 * a1)) + a2)) true _ ?side1 HC0_2.out A7.out).mono ?_); (case side1 => exact cb_ HR0_2.out HB.out); rintro e w16 ⟨rfl, hb⟩; replace BK328 := Aside0.mk (bk_ BK328.out hb); replace HB := Aside0.mk (bs_ HB.out hb); (try clear hb); obtain ⟨hcz17_0, hcz17_1, hcz17_2, hcz17_3, hcz17_4, hcz17_5, hcz17_6, hcz17_7, hcz17_8, hcz17_9, hcz17_10, hfz17_0, hfz17_1, hfz17_2, hfz17_3, hfz17_4, hfz17_5, hfz17_6, hfz17_7, hfz17_8, hfz17_9, hfz17_10⟩ := cz11_ BK328.out) | (go_at_call 103; (with_reducible refine (spec_NextNode.calls a0_0 a0_1 a1 a2 t330 _ A9.out).mono ?_); rintro e w18 ⟨rfl, hb⟩; replace BK328 := Aside0.mk (bk_ BK328.out hb); replace HB := Aside0.mk (bs_ HB.out hb); (try clear hb); obtain ⟨hcz19_0, hcz19_1, hcz19_2, hcz19_3, hcz19_4, hcz19_5, hcz19_6, hcz19_7, hcz19_8, hcz19_9, hcz19_10, hfz19_0, hfz19_1, hfz19_2, hfz19_3, hfz19_4, hfz19_5, hfz19_6, hfz19_7, hfz19_8, hfz19_9, hfz19_10⟩ := cz11_ BK328.out; have p332 : 0 ≤ ((ji11) : Int) := of_decide_eq_true dg_; have q332 : (ji11) < (l0_5.length : Int) := of_decide_eq_true dg_; obtain ⟨ad332, A332_0, c332_0, e332, hx332_0, hl332_0, hi332_0⟩ := at_L5 HR0_5.out (ji11) p332 q332; cases e332; replace hx332_0 := (HB.out.cell (World.block_lt_of_cell? w _ hx332_0)).trans hx332_0; have HR332_0 := Aside0.mk hi332_0; have HC332_0 := Aside0.mk hl332_0; clear hi332_0 hl332_0; replace p332 := eq_true p332; replace q332 := eq_true q332) | (go_at_call 104; (with_reducible refine (spec_Opposite.calls a2 t331 _ A10.out).mono ?_); rintro e w' ⟨rfl, ⟨nd, rfl⟩⟩; (try first | exact ⟨rfl, _, World.drewN_drewN _ _ _⟩ | exact ⟨rfl, _, Eq.trans (World.drewN_drewN _ _ _) (congrArg (World.drewN _) (Nat.add_assoc _ _ _))⟩)))
     repeat (go_quiet (first | ((with_reducible refine gate_dst (N := 4) rfl ?_); refine box_event ?hg (N := 4) ?hd (cs := #[.int .i64 a0_0, .int .i64 a0_1, .slice A0_2 l0_2.length c0_2, .slice A0_3 l0_3.length c0_3, .slice A0_4 l0_4.length c0_4, .slice A0_5 l0_5.length c0_5, .slice A0_6 l0_6.length c0_6, .slice A0_7 l0_7.length c0_7, .slice A0_8 l0_8.length c0_8, .slice A0_9 l0_9.length c0_9, .int .i64 a0_10]) (t := 44) ?hr ?_; (case hd => rfl); (case hg => rfl); (case hr => first | (go_simp; done) | (go_simp; rfl)); intro gb328 hg w14 hbox hb; have BK328 := Aside0.mk (hbox); have GW328 := Aside0.mk ((by rw [hg]; exact (bz_ HB.out) : w.heap.size ≤ gb328)); have GE328 := Aside0.mk ((by rw [hg]; exact (bz_ HB.out) : w.heap.size ≤ gb328)); replace HB := Aside0.mk (bs_ HB.out hb); clear hb hbox hg; obtain ⟨hcz15_0, hcz15_1, hcz15_2, hcz15_3, hcz15_4, hcz15_5, hcz15_6, hcz15_7, hcz15_8, hcz15_9, hcz15_10, hfz15_0, hfz15_1, hfz15_2, hfz15_3, hfz15_4, hfz15_5, hfz15_6, hfz15_7, hfz15_8, hfz15_9, hfz15_10⟩ := cz11_ BK328.out) | (go_at_call 102; (with_reducible refine (spec_l03Has.calls k a0_0 a0_1 _ _ l0_2 (wrap64 ((wrap64 (4 * a1)) + a2)) true _ ?side1 HC0_2.out A7.out).mono ?_); (case side1 => exact cb_ HR0_2.out HB.out); rintro e w16 ⟨rfl, hb⟩; replace BK328 := Aside0.mk (bk_ BK328.out hb); replace HB := Aside0.mk (bs_ HB.out hb); (try clear hb); obtain ⟨hcz17_0, hcz17_1, hcz17_2, hcz17_3, hcz17_4, hcz17_5, hcz17_6, hcz17_7, hcz17_8, hcz17_9, hcz17_10, hfz17_0, hfz17_1, hfz17_2, hfz17_3, hfz17_4, hfz17_5, hfz17_6, hfz17_7, hfz17_8, hfz17_9, hfz17_10⟩ := cz11_ BK328.out) | (go_at_call 103; (with_reducible refine (spec_NextNode.calls a0_0 a0_1 a1 a2 t330 _ A9.out).mono ?_); rintro e w18 ⟨rfl, hb⟩; replace BK328 := Aside0.mk (bk_ BK328.out hb); replace HB := Aside0.mk (bs_ HB.out hb); (try clear hb); obtain ⟨hcz19_0, hcz19_1, hcz19_2, hcz19_3, hcz19_4, hcz19_5, hcz19_6, hcz19_7, hcz19_8, hcz19_9, hcz19_10, hfz19_0, hfz19_1, hfz19_2, hfz19_3, hfz19_4, hfz19_5, hfz19_6, hfz19_7, hfz19_8, hfz19_9, hfz19_10⟩ := cz11_ BK328.out; have p332 : 0 ≤ ((ji11) : Int) := of_decide_eq_true dg_; have q332 : (ji11) < (l0_5.length : Int) := of_decide_eq_true dg_; obtain ⟨ad332, A332_0, c332_0, e332, hx332_0, hl332_0, hi332_0⟩ := at_L5 HR0_5.out (ji11) p332 q332; cases e332; replace hx332_0 := (HB.out.cell (World.block_lt_of_cell? w _ hx332_0)).trans hx332_0; have HR332_0 := Aside0.mk hi332_0; have HC332_0 := Aside0.mk hl332_0; clear hi332_0 hl332_0; replace p332 := eq_true p332; replace q332 := eq_true q332) | (go_at_call 104; (with_reducible refine (spec_Opposite.calls a2 t331 _ A10.out).mono ?_); rintro e w' ⟨rfl, ⟨nd, rfl⟩⟩; (try first | exact ⟨rfl, _, World.drewN_drewN _ _ _⟩ | exact ⟨rfl, _, Eq.trans (World.drewN_drewN _ _ _) (congrArg (World.drewN _) (Nat.add_assoc _ _ _))⟩))); try go_wp2_with (first | ((with_reducible refine gate_dst (N := 4) rfl ?_); refine box_event ?hg (N := 4) ?hd (cs := #[.int .i64 a0_0, .int .i64 a0_1, .slice A0_2 l0_2.length c0_2, .slice A0_3 l0_3.length c0_3, .slice A0_4 l0_4.length c0_4, .slice A0_5 l0_5.length c0_5, .slice A0_6 l0_6.length c0_6, .slice A0_7 l0_7.length c0_7, .slice A0_8 l0_8.length c0_8, .slice A0_9 l0_9.length c0_9, .int .i64 a0_10]) (t := 44) ?hr ?_; (case hd => rfl); (case hg => rfl); (case hr => first | (go_simp; done) | (go_simp; rfl)); intro gb328 hg w14 hbox hb; have BK328 := Aside0.mk (hbox); have GW328 := Aside0.mk ((by rw [hg]; exact (bz_ HB.out) : w.heap.size ≤ gb328)); have GE328 := Aside0.mk ((by rw [hg]; exact (bz_ HB.out) : w.heap.size ≤ gb328)); replace HB := Aside0.mk (bs_ HB.out hb); clear hb hbox hg; obtain ⟨hcz15_0, hcz15_1, hcz15_2, hcz15_3, hcz15_4, hcz15_5, hcz15_6, hcz15_7, hcz15_8, hcz15_9, hcz15_10, hfz15_0, hfz15_1, hfz15_2, hfz15_3, hfz15_4, hfz15_5, hfz15_6, hfz15_7, hfz15_8, hfz15_9, hfz15_10⟩ := cz11_ BK328.out) | (go_at_call 102; (with_reducible refine (spec_l03Has.calls k a0_0 a0_1 _ _ l0_2 (wrap64 ((wrap64 (4 * a1)) + a2)) true _ ?side1 HC0_2.out A7.out).mono ?_); (case side1 => exact cb_ HR0_2.out HB.out); rintro e w16 ⟨rfl, hb⟩; replace BK328 := Aside0.mk (bk_ BK328.out hb); replace HB := Aside0.mk (bs_ HB.out hb); (try clear hb); obtain ⟨hcz17_0, hcz17_1, hcz17_2, hcz17_3, hcz17_4, hcz17_5, hcz17_6, hcz17_7, hcz17_8, hcz17_9, hcz17_10, hfz17_0, hfz17_1, hfz17_2, hfz17_3, hfz17_4, hfz17_5, hfz17_6, hfz17_7, hfz17_8, hfz17_9, hfz17_10⟩ := cz11_ BK328.out) | (go_at_call 103; (with_reducible refine (spec_NextNode.calls a0_0 a0_1 a1 a2 t330 _ A9.out).mono ?_); rintro e w18 ⟨rfl, hb⟩; replace BK328 := Aside0.mk (bk_ BK328.out hb); replace HB := Aside0.mk (bs_ HB.out hb); (try clear hb); obtain ⟨hcz19_0, hcz19_1, hcz19_2, hcz19_3, hcz19_4, hcz19_5, hcz19_6, hcz19_7, hcz19_8, hcz19_9, hcz19_10, hfz19_0, hfz19_1, hfz19_2, hfz19_3, hfz19_4, hfz19_5, hfz19_6, hfz19_7, hfz19_8, hfz19_9, hfz19_10⟩ := cz11_ BK328.out; have p332 : 0 ≤ ((ji11) : Int) := of_decide_eq_true dg_; have q332 : (ji11) < (l0_5.length : Int) := of_decide_eq_true dg_; obtain ⟨ad332, A332_0, c332_0, e332, hx332_0, hl332_0, hi332_0⟩ := at_L5 HR0_5.out (ji11) p332 q332; cases e332; replace hx332_0 := (HB.out.cell (World.block_lt_of_cell? w _ hx332_0)).trans hx332_0; have HR332_0 := Aside0.mk hi332_0; have HC332_0 := Aside0.mk hl332_0; clear hi332_0 hl332_0; replace p332 := eq_true p332; replace q332 := eq_true q332) | (go_at_call 104; (with_reducible refine (spec_Opposite.calls a2 t331 _ A10.out).mono ?_); rintro e w' ⟨rfl, ⟨nd, rfl⟩⟩; (try first | exact ⟨rfl, _, World.drewN_drewN _ _ _⟩ | exact ⟨rfl, _, Eq.trans (World.drewN_drewN _ _ _) (congrArg (World.drewN _) (Nat.add_assoc _ _ _))⟩))))
     go_ret
     exact ⟨by first | rfl | (simp [errW_none, errW_some] <;> rfl) | (simp only [← hji11]; first | rfl | (simp [errW_none, errW_some] <;> rfl)) | (simp [*, errW_none, errW_some] <;> rfl), bb_ HB.out⟩
    ·rw [if_neg c13] at H
     exact absurd H (by simp)
   ·rw [if_neg c12] at H
    exact absurd H (by simp)
  ·replace c8 := Bool.eq_false_iff.mpr c8
   subst c8
   rw [if_neg (show ¬ (false = true) by decide)] at H
   obtain rfl := Option.some.inj H
   go_enter Try.func64, Try.ntmps64
   go_wp2_with (first | ((with_reducible refine gate_dst (N := 4) rfl ?_); refine box_event ?hg (N := 4) ?hd (cs := #[.int .i64 a0_0, .int .i64 a0_1, .slice A0_2 l0_2.length c0_2, .slice A0_3 l0_3.length c0_3, .slice A0_4 l0_4.length c0_4, .slice A0_5 l0_5.length c0_5, .slice A0_6 l0_6.length c0_6, .slice A0_7 l0_7.length c0_7, .slice A0_8 l0_8.length c0_8, .slice A0_9 l0_9.length c0_9, .int .i64 a0_10]) (t := 44) ?hr ?_; (case hd => rfl); (case hg => rfl); (case hr => first | (go_simp; done) | (go_simp; rfl)); intro gb328 hg w20 hbox hb; have BK328 := Aside0.mk (hbox); have GW328 := Aside0.mk ((by rw [hg]; exact (bz_ HB.out) : w.heap.size ≤ gb328)); have GE328 := Aside0.mk ((by rw [hg]; exact (bz_ HB.out) : w.heap.size ≤ gb328)); replace HB := Aside0.mk (bs_ HB.out hb); clear hb hbox hg; obtain ⟨hcz21_0, hcz21_1, hcz21_2, hcz21_3, hcz21_4, hcz21_5, hcz21_6, hcz21_7, hcz21_8, hcz21_9, hcz21_10, hfz21_0, hfz21_1, hfz21_2, hfz21_3, hfz21_4, hfz21_5, hfz21_6, hfz21_7, hfz21_8, hfz21_9, hfz21_10⟩ := cz11_ BK328.out) | (go_at_call 102; (with_reducible refine (spec_l03Has.calls k a0_0 a0_1 _ _ l0_2 (wrap64 ((wrap64 (4 * a1)) + a2)) false _ ?side1 HC0_2.out A7.out).mono ?_); (case side1 => exact cb_ HR0_2.out HB.out); rintro e w22 ⟨rfl, hb⟩; replace BK328 := Aside0.mk (bk_ BK328.out hb); replace HB := Aside0.mk (bs_ HB.out hb); (try clear hb)))
   repeat (go_quiet (first | ((with_reducible refine gate_dst (N := 4) rfl ?_); refine box_event ?hg (N := 4) ?hd (cs := #[.int .i64 a0_0, .int .i64 a0_1, .slice A0_2 l0_2.length c0_2, .slice A0_3 l0_3.length c0_3, .slice A0_4 l0_4.length c0_4, .slice A0_5 l0_5.length c0_5, .slice A0_6 l0_6.length c0_6, .slice A0_7 l0_7.length c0_7, .slice A0_8 l0_8.length c0_8, .slice A0_9 l0_9.length c0_9, .int .i64 a0_10]) (t := 44) ?hr ?_; (case hd => rfl); (case hg => rfl); (case hr => first | (go_simp; done) | (go_simp; rfl)); intro gb328 hg w20 hbox hb; have BK328 := Aside0.mk (hbox); have GW328 := Aside0.mk ((by rw [hg]; exact (bz_ HB.out) : w.heap.size ≤ gb328)); have GE328 := Aside0.mk ((by rw [hg]; exact (bz_ HB.out) : w.heap.size ≤ gb328)); replace HB := Aside0.mk (bs_ HB.out hb); clear hb hbox hg; obtain ⟨hcz21_0, hcz21_1, hcz21_2, hcz21_3, hcz21_4, hcz21_5, hcz21_6, hcz21_7, hcz21_8, hcz21_9, hcz21_10, hfz21_0, hfz21_1, hfz21_2, hfz21_3, hfz21_4, hfz21_5, hfz21_6, hfz21_7, hfz21_8, hfz21_9, hfz21_10⟩ := cz11_ BK328.out) | (go_at_call 102; (with_reducible refine (spec_l03Has.calls k a0_0 a0_1 _ _ l0_2 (wrap64 ((wrap64 (4 * a1)) + a2)) false _ ?side1 HC0_2.out A7.out).mono ?_); (case side1 => exact cb_ HR0_2.out HB.out); rintro e w22 ⟨rfl, hb⟩; replace BK328 := Aside0.mk (bk_ BK328.out hb); replace HB := Aside0.mk (bs_ HB.out hb); (try clear hb))); try go_wp2_with (first | ((with_reducible refine gate_dst (N := 4) rfl ?_); refine box_event ?hg (N := 4) ?hd (cs := #[.int .i64 a0_0, .int .i64 a0_1, .slice A0_2 l0_2.length c0_2, .slice A0_3 l0_3.length c0_3, .slice A0_4 l0_4.length c0_4, .slice A0_5 l0_5.length c0_5, .slice A0_6 l0_6.length c0_6, .slice A0_7 l0_7.length c0_7, .slice A0_8 l0_8.length c0_8, .slice A0_9 l0_9.length c0_9, .int .i64 a0_10]) (t := 44) ?hr ?_; (case hd => rfl); (case hg => rfl); (case hr => first | (go_simp; done) | (go_simp; rfl)); intro gb328 hg w20 hbox hb; have BK328 := Aside0.mk (hbox); have GW328 := Aside0.mk ((by rw [hg]; exact (bz_ HB.out) : w.heap.size ≤ gb328)); have GE328 := Aside0.mk ((by rw [hg]; exact (bz_ HB.out) : w.heap.size ≤ gb328)); replace HB := Aside0.mk (bs_ HB.out hb); clear hb hbox hg; obtain ⟨hcz21_0, hcz21_1, hcz21_2, hcz21_3, hcz21_4, hcz21_5, hcz21_6, hcz21_7, hcz21_8, hcz21_9, hcz21_10, hfz21_0, hfz21_1, hfz21_2, hfz21_3, hfz21_4, hfz21_5, hfz21_6, hfz21_7, hfz21_8, hfz21_9, hfz21_10⟩ := cz11_ BK328.out) | (go_at_call 102; (with_reducible refine (spec_l03Has.calls k a0_0 a0_1 _ _ l0_2 (wrap64 ((wrap64 (4 * a1)) + a2)) false _ ?side1 HC0_2.out A7.out).mono ?_); (case side1 => exact cb_ HR0_2.out HB.out); rintro e w22 ⟨rfl, hb⟩; replace BK328 := Aside0.mk (bk_ BK328.out hb); replace HB := Aside0.mk (bs_ HB.out hb); (try clear hb))))
   go_ret
   exact ⟨fin_, bb_ HB.out⟩

/-! ### spec_l17Wanted: function 68 -/
def spec_l17Wanted.l0 : Nat → Int → Int → Int → Int → Int → Int → List Int → List Int → List Int → List (List (S97)) → List Int → List Int → List (List (S97)) → List (List (S97)) → Int → Option (Int)
 | 0, _, _, _, _, _, _, _, _, _, _, _, _, _, _, _ => none
 | k + 1, x1, x2, x8, x10, x334000, x334001, x334002, x334003, x334004, x334005, x334006, x334007, x334008, x334009, x334010 => if x10 ≤ 4 then (if 0 ≤ (wrap64 ((wrap64 ((wrap64 (10 * x1)) + (wrap64 (2 * x10)))) + x8)) then (if (wrap64 ((wrap64 ((wrap64 (10 * x1)) + (wrap64 (2 * x10)))) + x8)) < (x334006.length : Int) then (if (rd x334006 (wrap64 ((wrap64 ((wrap64 (10 * x1)) + (wrap64 (2 * x10)))) + x8))) = (wrap64 (Int.tdiv x2 2)) then (some x10) else (spec_l17Wanted.l0 k x1 x2 x8 (wrap64 (x10 + 1)) x334000 x334001 x334002 x334003 x334004 x334005 x334006 x334007 x334008 x334009 x334010)) else (none)) else (none)) else (some (-1))
def spec_l17Wanted.f (k : Nat) (a0_0 : Int) (a0_1 : Int) (l0_2 : List Int) (l0_3 : List Int) (l0_4 : List Int) (l0_5 : List (List (S97))) (l0_6 : List Int) (l0_7 : List Int) (l0_8 : List (List (S97))) (l0_9 : List (List (S97))) (a0_10 : Int) (a1 : Int) (a2 : Int) : Option (Int) := if 0 ≤ (wrap64 ((wrap64 (10 * a1)) + a2)) then (if (wrap64 ((wrap64 (10 * a1)) + a2)) < (l0_5.length : Int) then (if ((rd_L5 l0_5 (wrap64 ((wrap64 (10 * a1)) + a2))).length : Int) = 0 then (some (-1)) else (if 0 < ((rd_L5 l0_5 (wrap64 ((wrap64 (10 * a1)) + a2))).length : Int) then (if (rd_T97 (rd_L5 l0_5 (wrap64 ((wrap64 (10 * a1)) + a2))) 0).f3 = true then ((spec_NodeCount.f a0_0 a0_1).bind fun t336 => (if (Int.tmod a2 2) = 1 then (if 0 ≤ (wrap64 ((wrap64 (a1 * t336)) + ((rd_T97 (rd_L5 l0_5 (wrap64 ((wrap64 (10 * a1)) + a2))) 0).f1))) then (if (wrap64 ((wrap64 (a1 * t336)) + ((rd_T97 (rd_L5 l0_5 (wrap64 ((wrap64 (10 * a1)) + a2))) 0).f1))) < (l0_4.length : Int) then (some (rd l0_4 (wrap64 ((wrap64 (a1 * t336)) + ((rd_T97 (rd_L5 l0_5 (wrap64 ((wrap64 (10 * a1)) + a2))) 0).f1))))) else (none)) else (none)) else (if 0 ≤ (wrap64 ((wrap64 (a1 * t336)) + ((rd_T97 (rd_L5 l0_5 (wrap64 ((wrap64 (10 * a1)) + a2))) 0).f1))) then (if (wrap64 ((wrap64 (a1 * t336)) + ((rd_T97 (rd_L5 l0_5 (wrap64 ((wrap64 (10 * a1)) + a2))) 0).f1))) < (l0_3.length : Int) then (some (rd l0_3 (wrap64 ((wrap64 (a1 * t336)) + ((rd_T97 (rd_L5 l0_5 (wrap64 ((wrap64 (10 * a1)) + a2))) 0).f1))))) else (none)) else (none)))) else (spec_l17Wanted.l0 k a1 a2 (Int.tmod a2 2) 0 a0_0 a0_1 l0_2 l0_3 l0_4 l0_5 l0_6 l0_7 l0_8 l0_9 a0_10)) else (none))) else (none)) else (none)
theorem spec_l17Wanted.mono_l : ∀ k, (∀ y0 y1 y2 y3 y4 y5 y6 y7 y8 y9 y10 y11 y12 y13 y14, LeO (spec_l17Wanted.l0 k y0 y1 y2 y3 y4 y5 y6 y7 y8 y9 y10 y11 y12 y13 y14) (spec_l17Wanted.l0 (k + 1) y0 y1 y2 y3 y4 y5 y6 y7 y8 y9 y10 y11 y12 y13 y14))
 | 0 => fun _ _ _ _ _ _ _ _ _ _ _ _ _ _ _ r h => by simp [spec_l17Wanted.l0] at h
 | k + 1 => by
  have ih0 := spec_l17Wanted.mono_l k
  ·intro y0 y1 y2 y3 y4 y5 y6 y7 y8 y9 y10 y11 y12 y13 y14
   unfold spec_l17Wanted.l0
   repeat' first
   | (with_reducible exact ih0 _ _ _ _ _ _ _ _ _ _ _ _ _ _ _)
   | (with_reducible exact LeO.refl _)
   | (with_reducible exact LeO.none _)
   | (with_reducible refine LeO.ite ?_ ?_)
   | (with_reducible refine LeO.bind ?_ (fun _ => ?_))
   | exact ih0 _ _ _ _ _ _ _ _ _ _ _ _ _ _ _
   | exact LeO.none _
   | refine LeO.ite ?_ ?_
   | refine LeO.bind ?_ (fun _ => ?_)
theorem spec_l17Wanted.mono : ∀ a0 a1 a2 a3 a4 a5 a6 a7 a8 a9 a10 a11 a12 k, LeO (spec_l17Wanted.f k a0 a1 a2 a3 a4 a5 a6 a7 a8 a9 a10 a11 a12) (spec_l17Wanted.f (k + 1) a0 a1 a2 a3 a4 a5 a6 a7 a8 a9 a10 a11 a12) := by
 intro a0 a1 a2 a3 a4 a5 a6 a7 a8 a9 a10 a11 a12 k
 have ih0 := spec_l17Wanted.mono_l k
 unfold spec_l17Wanted.f
 repeat' first
   | (with_reducible exact ih0 _ _ _ _ _ _ _ _ _ _ _ _ _ _ _)
   | (with_reducible exact LeO.refl _)
   | (with_reducible exact LeO.none _)
   | (with_reducible refine LeO.ite ?_ ?_)
   | (with_reducible refine LeO.bind ?_ (fun _ => ?_))
   | exact ih0 _ _ _ _ _ _ _ _ _ _ _ _ _ _ _
   | exact LeO.none _
   | refine LeO.ite ?_ ?_
   | refine LeO.bind ?_ (fun _ => ?_)
set_option maxHeartbeats 8000000 in
set_option maxRecDepth 100000 in
theorem spec_l17Wanted.calls (k : Nat) (a0_0 : Int) (a0_1 : Int) (A0_2 : Option Addr) (c0_2 : Nat) (l0_2 : List Int) (A0_3 : Option Addr) (c0_3 : Nat) (l0_3 : List Int) (A0_4 : Option Addr) (c0_4 : Nat) (l0_4 : List Int) (A0_5 : Option Addr) (c0_5 : Nat) (l0_5 : List (List (S97))) (A0_6 : Option Addr) (c0_6 : Nat) (l0_6 : List Int) (A0_7 : Option Addr) (c0_7 : Nat) (l0_7 : List Int) (A0_8 : Option Addr) (c0_8 : Nat) (l0_8 : List (List (S97))) (A0_9 : Option Addr) (c0_9 : Nat) (l0_9 : List (List (S97))) (a0_10 : Int) (a1 : Int) (a2 : Int) (r : Int) (w : World) (hr0_2 : Kd.C (Kd.int .i64) w A0_2 l0_2.length l0_2) (hc0_2 : l0_2.length ≤ c0_2) (hr0_3 : Kd.C (Kd.int .i64) w A0_3 l0_3.length l0_3) (hc0_3 : l0_3.length ≤ c0_3) (hr0_4 : Kd.C (Kd.int .i64) w A0_4 l0_4.length l0_4) (hc0_4 : l0_4.length ≤ c0_4) (hr0_5 : Kd.C (Kd.slice 97 k97) w A0_5 l0_5.length l0_5) (hc0_5 : l0_5.length ≤ c0_5) (hr0_6 : Kd.C (Kd.int .i64) w A0_6 l0_6.length l0_6) (hc0_6 : l0_6.length ≤ c0_6) (hr0_7 : Kd.C (Kd.int .i64) w A0_7 l0_7.length l0_7) (hc0_7 : l0_7.length ≤ c0_7) (hr0_8 : Kd.C (Kd.slice 97 k97) w A0_8 l0_8.length l0_8) (hc0_8 : l0_8.length ≤ c0_8) (hr0_9 : Kd.C (Kd.slice 97 k97) w A0_9 l0_9.length l0_9) (hc0_9 : l0_9.length ≤ c0_9) (h : spec_l17Wanted.f k a0_0 a0_1 l0_2 l0_3 l0_4 l0_5 l0_6 l0_7 l0_8 l0_9 a0_10 a1 a2 = some r) :
  Calls Try.prog 68 #[.agg #[.int .i64 a0_0, .int .i64 a0_1, .slice A0_2 l0_2.length c0_2, .slice A0_3 l0_3.length c0_3, .slice A0_4 l0_4.length c0_4, .slice A0_5 l0_5.length c0_5, .slice A0_6 l0_6.length c0_6, .slice A0_7 l0_7.length c0_7, .slice A0_8 l0_8.length c0_8, .slice A0_9 l0_9.length c0_9, .int .i64 a0_10], .int .i64 a1, .int .i64 a2] w fun e w' => e = .returned (.int .i64 r) ∧ Below w.heap.size w w' := by
 have hu44 := Try.underlying44
 have hu36 := Try.underlying36
 have HR0_2 := Aside0.mk hr0_2
 have HC0_2 := Aside0.mk hc0_2
 clear hr0_2 hc0_2
 have HR0_3 := Aside0.mk hr0_3
 have HC0_3 := Aside0.mk hc0_3
 clear hr0_3 hc0_3
 have HR0_4 := Aside0.mk hr0_4
 have HC0_4 := Aside0.mk hc0_4
 clear hr0_4 hc0_4
 have HR0_5 := Aside0.mk hr0_5
 have HC0_5 := Aside0.mk hc0_5
 clear hr0_5 hc0_5
 have HR0_6 := Aside0.mk hr0_6
 have HC0_6 := Aside0.mk hc0_6
 clear hr0_6 hc0_6
 have HR0_7 := Aside0.mk hr0_7
 have HC0_7 := Aside0.mk hc0_7
 clear hr0_7 hc0_7
 have HR0_8 := Aside0.mk hr0_8
 have HC0_8 := Aside0.mk hc0_8
 clear hr0_8 hc0_8
 have HR0_9 := Aside0.mk hr0_9
 have HC0_9 := Aside0.mk hc0_9
 clear hr0_9 hc0_9
 have HB := Aside0.mk (Below.refl w.heap.size w)
 have H : (if 0 ≤ (wrap64 ((wrap64 (10 * a1)) + a2)) then (if (wrap64 ((wrap64 (10 * a1)) + a2)) < (l0_5.length : Int) then (if ((rd_L5 l0_5 (wrap64 ((wrap64 (10 * a1)) + a2))).length : Int) = 0 then (some (-1)) else (if 0 < ((rd_L5 l0_5 (wrap64 ((wrap64 (10 * a1)) + a2))).length : Int) then (if (rd_T97 (rd_L5 l0_5 (wrap64 ((wrap64 (10 * a1)) + a2))) 0).f3 = true then ((spec_NodeCount.f a0_0 a0_1).bind fun t336 => (if (Int.tmod a2 2) = 1 then (if 0 ≤ (wrap64 ((wrap64 (a1 * t336)) + ((rd_T97 (rd_L5 l0_5 (wrap64 ((wrap64 (10 * a1)) + a2))) 0).f1))) then (if (wrap64 ((wrap64 (a1 * t336)) + ((rd_T97 (rd_L5 l0_5 (wrap64 ((wrap64 (10 * a1)) + a2))) 0).f1))) < (l0_4.length : Int) then (some (rd l0_4 (wrap64 ((wrap64 (a1 * t336)) + ((rd_T97 (rd_L5 l0_5 (wrap64 ((wrap64 (10 * a1)) + a2))) 0).f1))))) else (none)) else (none)) else (if 0 ≤ (wrap64 ((wrap64 (a1 * t336)) + ((rd_T97 (rd_L5 l0_5 (wrap64 ((wrap64 (10 * a1)) + a2))) 0).f1))) then (if (wrap64 ((wrap64 (a1 * t336)) + ((rd_T97 (rd_L5 l0_5 (wrap64 ((wrap64 (10 * a1)) + a2))) 0).f1))) < (l0_3.length : Int) then (some (rd l0_3 (wrap64 ((wrap64 (a1 * t336)) + ((rd_T97 (rd_L5 l0_5 (wrap64 ((wrap64 (10 * a1)) + a2))) 0).f1))))) else (none)) else (none)))) else (spec_l17Wanted.l0 k a1 a2 (Int.tmod a2 2) 0 a0_0 a0_1 l0_2 l0_3 l0_4 l0_5 l0_6 l0_7 l0_8 l0_9 a0_10)) else (none))) else (none)) else (none)) = some r := h
 clear h
 obtain ⟨ji4, hji4⟩ : ∃ j_ : Int, (wrap64 ((wrap64 (10 * a1)) + a2)) = j_ := ⟨_, rfl⟩
 replace H : (if 0 ≤ (ji4) then (if (ji4) < (l0_5.length : Int) then (if ((rd_L5 l0_5 (ji4)).length : Int) = 0 then (some (-1)) else (if 0 < ((rd_L5 l0_5 (ji4)).length : Int) then (if (rd_T97 (rd_L5 l0_5 (ji4)) 0).f3 = true then ((spec_NodeCount.f a0_0 a0_1).bind fun t336 => (if (Int.tmod a2 2) = 1 then (if 0 ≤ (wrap64 ((wrap64 (a1 * t336)) + ((rd_T97 (rd_L5 l0_5 (ji4)) 0).f1))) then (if (wrap64 ((wrap64 (a1 * t336)) + ((rd_T97 (rd_L5 l0_5 (ji4)) 0).f1))) < (l0_4.length : Int) then (some (rd l0_4 (wrap64 ((wrap64 (a1 * t336)) + ((rd_T97 (rd_L5 l0_5 (ji4)) 0).f1))))) else (none)) else (none)) else (if 0 ≤ (wrap64 ((wrap64 (a1 * t336)) + ((rd_T97 (rd_L5 l0_5 (ji4)) 0).f1))) then (if (wrap64 ((wrap64 (a1 * t336)) + ((rd_T97 (rd_L5 l0_5 (ji4)) 0).f1))) < (l0_3.length : Int) then (some (rd l0_3 (wrap64 ((wrap64 (a1 * t336)) + ((rd_T97 (rd_L5 l0_5 (ji4)) 0).f1))))) else (none)) else (none)))) else (spec_l17Wanted.l0 k a1 a2 (Int.tmod a2 2) 0 a0_0 a0_1 l0_2 l0_3 l0_4 l0_5 l0_6 l0_7 l0_8 l0_9 a0_10)) else (none))) else (none)) else (none)) = some r := by first | (rw [hji4] at H; exact H) | (simp only [hji4] at H ⊢; exact H)
 have hji4w : (IntKind.i64.wrap ((wrap64 (10 * a1)) + a2)) = ji4 := (i64_w _).trans hji4
 by_cases c5 : 0 ≤ (ji4)
 ·rw [if_pos c5] at H
  have c5b0 : decide (0 ≤ (ji4)) = true := decide_eq_true c5
  clear c5
  by_cases c6 : (ji4) < (l0_5.length : Int)
  ·rw [if_pos c6] at H
   have c6b0 : decide ((ji4) < (l0_5.length : Int)) = true := decide_eq_true c6
   clear c6
   by_cases c7 : ((rd_L5 l0_5 (ji4)).length : Int) = 0
   ·rw [if_pos c7] at H
    have c7b0 : (((rd_L5 l0_5 (ji4)).length : Int) == 0) = true := beq_iff_eq.mpr c7
    have c7b1 : (((rd_L5 l0_5 (ji4)).length : Int) != 0) = false := bne_eq_false_iff_eq.mpr c7
    clear c7
    obtain rfl := Option.some.inj H
    go_enter Try.func68, Try.ntmps68
    go_wp2_with (first | ((with_reducible refine gate_dst (N := 3) rfl ?_); refine box_event ?hg (N := 3) ?hd (cs := #[.int .i64 a0_0, .int .i64 a0_1, .slice A0_2 l0_2.length c0_2, .slice A0_3 l0_3.length c0_3, .slice A0_4 l0_4.length c0_4, .slice A0_5 l0_5.length c0_5, .slice A0_6 l0_6.length c0_6, .slice A0_7 l0_7.length c0_7, .slice A0_8 l0_8.length c0_8, .slice A0_9 l0_9.length c0_9, .int .i64 a0_10]) (t := 44) ?hr ?_; (case hd => rfl); (case hg => rfl); (case hr => first | (go_simp; done) | (go_simp; rfl)); intro gb333 hg w8 hbox hb; have BK333 := Aside0.mk (hbox); have GW333 := Aside0.mk ((by rw [hg]; exact (bz_ HB.out) : w.heap.size ≤ gb333)); have GE333 := Aside0.mk ((by rw [hg]; exact (bz_ HB.out) : w.heap.size ≤ gb333)); replace HB := Aside0.mk (bs_ HB.out hb); clear hb hbox hg; obtain ⟨hcz9_0, hcz9_1, hcz9_2, hcz9_3, hcz9_4, hcz9_5, hcz9_6, hcz9_7, hcz9_8, hcz9_9, hcz9_10, hfz9_0, hfz9_1, hfz9_2, hfz9_3, hfz9_4, hfz9_5, hfz9_6, hfz9_7, hfz9_8, hfz9_9, hfz9_10⟩ := cz11_ BK333.out; have p334 : 0 ≤ ((ji4) : Int) := of_decide_eq_true dg_; have q334 : (ji4) < (l0_5.length : Int) := of_decide_eq_true dg_; obtain ⟨ad334, A334_0, c334_0, e334, hx334_0, hl334_0, hi334_0⟩ := at_L5 HR0_5.out (ji4) p334 q334; cases e334; replace hx334_0 := (HB.out.cell (World.block_lt_of_cell? w _ hx334_0)).trans hx334_0; have HR334_0 := Aside0.mk hi334_0; have HC334_0 := Aside0.mk hl334_0; clear hi334_0 hl334_0; replace p334 := eq_true p334; replace q334 := eq_true q334))
    repeat (go_quiet (first | ((with_reducible refine gate_dst (N := 3) rfl ?_); refine box_event ?hg (N := 3) ?hd (cs := #[.int .i64 a0_0, .int .i64 a0_1, .slice A0_2 l0_2.length c0_2, .slice A0_3 l0_3.length c0_3, .slice A0_4 l0_4.length c0_4, .slice A0_5 l0_5.length c0_5, .slice A0_6 l0_6.length c0_6, .slice A0_7 l0_7.length c0_7, .slice A0_8 l0_8.length c0_8, .slice A0_9 l0_9.length c0_9, .int .i64 a0_10]) (t := 44) ?hr ?_; (case hd => rfl); (case hg => rfl); (case hr => first | (go_simp; done) | (go_simp; rfl)); intro gb333 hg w8 hbox hb; have BK333 := Aside0.mk (hbox); have GW333 := Aside0.mk ((by rw [hg]; exact (bz_ HB.out) : w.heap.size ≤ gb333)); have GE333 := Aside0.mk ((by rw [hg]; exact (bz_ HB.out) : w.heap.size ≤ gb333)); replace HB := Aside0.mk (bs_ HB.out hb); clear hb hbox hg; obtain ⟨hcz9_0, hcz9_1, hcz9_2, hcz9_3, hcz9_4, hcz9_5, hcz9_6, hcz9_7, hcz9_8, hcz9_9, hcz9_10, hfz9_0, hfz9_1, hfz9_2, hfz9_3, hfz9_4, hfz9_5, hfz9_6, hfz9_7, hfz9_8, hfz9_9, hfz9_10⟩ := cz11_ BK333.out; have p334 : 0 ≤ ((ji4) : Int) := of_decide_eq_true dg_; have q334 : (ji4) < (l0_5.length : Int) := of_decide_eq_true dg_; obtain ⟨ad334, A334_0, c334_0, e334, hx334_0, hl334_0, hi334_0⟩ := at_L5 HR0_5.out (ji4) p334 q334; cases e334; replace hx334_0 := (HB.out.cell (World.block_lt_of_cell? w _ hx334_0)).trans hx334_0; have HR334_0 := Aside0.mk hi334_0; have HC334_0 := Aside0.mk hl334_0; clear hi334_0 hl334_0; replace p334 := eq_true p334; replace q334 := eq_true q334)); try go_wp2_with (first | ((with_reducible refine gate_dst (N := 3) rfl ?_); refine box_event ?hg (N := 3) ?hd (cs := #[.int .i64 a0_0, .int .i64 a0_1, .slice A0_2 l0_2.length c0_2, .slice A0_3 l0_3.length c0_3, .slice A0_4 l0_4.length c0_4, .slice A0_5 l0_5.length c0_5, .slice A0_6 l0_6.length c0_6, .slice A0_7 l0_7.length c0_7, .slice A0_8 l0_8.length c0_8, .slice A0_9 l0_9.length c0_9, .int .i64 a0_10]) (t := 44) ?hr ?_; (case hd => rfl); (case hg => rfl); (case hr => first | (go_simp; done) | (go_simp; rfl)); intro gb333 hg w8 hbox hb; have BK333 := Aside0.mk (hbox); have GW333 := Aside0.mk ((by rw [hg]; exact (bz_ HB.out) : w.heap.size ≤ gb333)); have GE333 := Aside0.mk ((by rw [hg]; exact (bz_ HB.out) : w.heap.size ≤ gb333)); replace HB := Aside0.mk (bs_ HB.out hb); clear hb hbox hg; obtain ⟨hcz9_0, hcz9_1, hcz9_2, hcz9_3, hcz9_4, hcz9_5, hcz9_6, hcz9_7, hcz9_8, hcz9_9, hcz9_10, hfz9_0, hfz9_1, hfz9_2, hfz9_3, hfz9_4, hfz9_5, hfz9_6, hfz9_7, hfz9_8, hfz9_9, hfz9_10⟩ := cz11_ BK333.out; have p334 : 0 ≤ ((ji4) : Int) := of_decide_eq_true dg_; have q334 : (ji4) < (l0_5.length : Int) := of_decide_eq_true dg_; obtain ⟨ad334, A334_0, c334_0, e334, hx334_0, hl334_0, hi334_0⟩ := at_L5 HR0_5.out (ji4) p334 q334; cases e334; replace hx334_0 := (HB.out.cell (World.block_lt_of_cell? w _ hx334_0)).trans hx334_0; have HR334_0 := Aside0.mk hi334_0; have HC334_0 := Aside0.mk hl334_0; clear hi334_0 hl334_0; replace p334 := eq_true p334; replace q334 := eq_true q334)))
    go_ret
    exact ⟨by first | rfl | (simp [errW_none, errW_some] <;> rfl) | (simp only [← hji4]; first | rfl | (simp [errW_none, errW_some] <;> rfl)) | (simp [*, errW_none, errW_some] <;> rfl), bb_ HB.out⟩
   ·rw [if_neg c7] at H
    have c7b0 : (((rd_L5 l0_5 (ji4)).length : Int) == 0) = false := beq_eq_false_iff_ne.mpr c7
    have c7b1 : (((rd_L5 l0_5 (ji4)).length : Int) != 0) = true := bne_iff_ne.mpr c7
    have c7b2 : ¬ ((rd_L5 l0_5 (ji4)) = []) := fun h_ => c7 (by rw [h_]; rfl)
    by_cases c10 : 0 < ((rd_L5 l0_5 (ji4)).length : Int)
    ·rw [if_pos c10] at H
     have c10b0 : decide (0 < ((rd_L5 l0_5 (ji4)).length : Int)) = true := decide_eq_true c10
     have c10b1 : decide (0 < (rd_L5 l0_5 (ji4)).length) = true := decide_eq_true (by omega)
     clear c10
     obtain ⟨bq11, hbq11⟩ : ∃ b_ : Bool, b_ = ((rd_T97 (rd_L5 l0_5 (ji4)) 0).f3) := ⟨_, rfl⟩
     replace H : (if bq11 = true then ((spec_NodeCount.f a0_0 a0_1).bind fun t336 => (if (Int.tmod a2 2) = 1 then (if 0 ≤ (wrap64 ((wrap64 (a1 * t336)) + ((rd_T97 (rd_L5 l0_5 (ji4)) 0).f1))) then (if (wrap64 ((wrap64 (a1 * t336)) + ((rd_T97 (rd_L5 l0_5 (ji4)) 0).f1))) < (l0_4.length : Int) then (some (rd l0_4 (wrap64 ((wrap64 (a1 * t336)) + ((rd_T97 (rd_L5 l0_5 (ji4)) 0).f1))))) else (none)) else (none)) else (if 0 ≤ (wrap64 ((wrap64 (a1 * t336)) + ((rd_T97 (rd_L5 l0_5 (ji4)) 0).f1))) then (if (wrap64 ((wrap64 (a1 * t336)) + ((rd_T97 (rd_L5 l0_5 (ji4)) 0).f1))) < (l0_3.length : Int) then (some (rd l0_3 (wrap64 ((wrap64 (a1 * t336)) + ((rd_T97 (rd_L5 l0_5 (ji4)) 0).f1))))) else (none)) else (none)))) else (spec_l17Wanted.l0 k a1 a2 (Int.tmod a2 2) 0 a0_0 a0_1 l0_2 l0_3 l0_4 l0_5 l0_6 l0_7 l0_8 l0_9 a0_10)) = some r := by rw [← hbq11] at H; exact H
     have Nbq11 := Aside0.mk hbq11
     clear hbq11
     by_cases c12 : bq11 = true
     ·subst c12
      rw [if_pos rfl] at H
      replace H := Option.bind_eq_some_iff.mp H
      obtain ⟨t336, A130, H⟩ := H
      try dsimp only at H
      have A13 := Aside0.mk A130
      clear A130
      by_cases c14 : (Int.tmod a2 2) = 1
      ·rw [if_pos c14] at H
       have c14b0 : ((Int.tmod a2 2) == 1) = true := beq_iff_eq.mpr c14
       have c14b1 : ((Int.tmod a2 2) != 1) = false := bne_eq_false_iff_eq.mpr c14
       clear c14
       obtain ⟨ji15, hji15⟩ : ∃ j_ : Int, (wrap64 ((wrap64 (a1 * t336)) + ((rd_T97 (rd_L5 l0_5 (ji4)) 0).f1))) = j_ := ⟨_, rfl⟩
       replace H : (if 0 ≤ (ji15) then (if (ji15) < (l0_4.length : Int) then (some (rd l0_4 (ji15))) else (none)) else (none)) = some r := by first | (rw [hji15] at H; exact H) | (simp only [hji15] at H ⊢; exact H)
       (try rw [hji15] at A13)
       have hji15w : (IntKind.i64.wrap ((wrap64 (a1 * t336)) + ((rd_T97 (rd_L5 l0_5 (ji4)) 0).f1))) = ji15 := (i64_w _).trans hji15
       by_cases c16 : 0 ≤ (ji15)
       ·rw [if_pos c16] at H
        have c16b0 : decide (0 ≤ (ji15)) = true := decide_eq_true c16
        clear c16
        by_cases c17 : (ji15) < (l0_4.length : Int)
        ·rw [if_pos c17] at H
         have c17b0 : decide ((ji15) < (l0_4.length : Int)) = true := decide_eq_true c17
         clear c17
         obtain rfl := Option.some.inj H
         go_enter Try.func68, Try.ntmps68
         go_wp2_with (first | ((with_reducible refine gate_dst (N := 3) rfl ?_); refine box_event ?hg (N := 3) ?hd (cs := #[.int .i64 a0_0, .int .i64 a0_1, .slice A0_2 l0_2.length c0_2, .slice A0_3 l0_3.length c0_3, .slice A0_4 l0_4.length c0_4, .slice A0_5 l0_5.length c0_5, .slice A0_6 l0_6.length c0_6, .slice A0_7 l0_7.length c0_7, .slice A0_8 l0_8.length c0_8, .slice A0_9 l0_9.length c0_9, .int .i64 a0_10]) (t := 44) ?hr ?_; (case hd => rfl); (case hg => rfl); (case hr => first | (go_simp; done) | (go_simp; rfl)); intro gb333 hg w18 hbox hb; have BK333 := Aside0.mk (hbox); have GW333 := Aside0.mk ((by rw [hg]; exact (bz_ HB.out) : w.heap.size ≤ gb333)); have GE333 := Aside0.mk ((by rw [hg]; exact (bz_ HB.out) : w.heap.size ≤ gb333)); replace HB := Aside0.mk (bs_ HB.out hb); clear hb hbox hg; obtain ⟨hcz19_0, hcz19_1, hcz19_2, hcz19_3, hcz19_4, hcz19_5, hcz19_6, hcz19_7, hcz19_8, hcz19_9, hcz19_10, hfz19_0, hfz19_1, hfz19_2, hfz19_3, hfz19_4, hfz19_5, hfz19_6, hfz19_7, hfz19_8, hfz19_9, hfz19_10⟩ := cz11_ BK333.out; have p334 : 0 ≤ ((ji4) : Int) := of_decide_eq_true dg_; have q334 : (ji4) < (l0_5.length : Int) := of_decide_eq_true dg_; obtain ⟨ad334, A334_0, c334_0, e334, hx334_0, hl334_0, hi334_0⟩ := at_L5 HR0_5.out (ji4) p334 q334; cases e334; replace hx334_0 := (HB.out.cell (World.block_lt_of_cell? w _ hx334_0)).trans hx334_0; have HR334_0 := Aside0.mk hi334_0; have HC334_0 := Aside0.mk hl334_0; clear hi334_0 hl334_0; replace p334 := eq_true p334; replace q334 := eq_true q334; have p335 : 0 ≤ (0 : Int) := (by omega); have q335 : 0 < ((rd_L5 l0_5 (ji4)).length : Int) := of_decide_eq_true dg_; obtain ⟨ad335, e335, hx335_0, hx335_1, hx335_2, hx335_3, hx335_4⟩ := at_T97 HR334_0.out 0 p335 q335; (try rw [← Nbq11.out] at hx335_3); (try rw [← Nbq11.out] at hx335_4); cases e335; have qi335 : (0 < (rd_L5 l0_5 (ji4)).length) = True := eq_true (by omega); (try rw [show ((0 : Int)).toNat = 0 from rfl] at hx335_0); (try rw [show 0 * 5 = 0 from rfl] at hx335_0); (try rw [Addr.add_zero'] at hx335_0); (try rw [show ((0 : Int)).toNat = 0 from rfl] at hx335_1); (try rw [show 0 * 5 = 0 from rfl] at hx335_1); (try rw [Addr.add_zero'] at hx335_1); (try rw [show ((0 : Int)).toNat = 0 from rfl] at hx335_2); (try rw [show 0 * 5 = 0 from rfl] at hx335_2); (try rw [Addr.add_zero'] at hx335_2); (try rw [show ((0 : Int)).toNat = 0 from rfl] at hx335_3); (try rw [show 0 * 5 = 0 from rfl] at hx335_3); (try rw [Addr.add_zero'] at hx335_3); (try rw [show ((0 : Int)).toNat = 0 from rfl] at hx335_4); (try rw [show 0 * 5 = 0 from rfl] at hx335_4); (try rw [Addr.add_zero'] at hx335_4); replace hx335_0 := (HB.out.cell (World.block_lt_of_cell? w _ hx335_0)).trans hx335_0; replace hx335_1 := (HB.out.cell (World.block_lt_of_cell? w _ hx335_1)).trans hx335_1; replace hx335_2 := (HB.out.cell (World.block_lt_of_cell? w _ hx335_2)).trans hx335_2; replace hx335_3 := (HB.out.cell (World.block_lt_of_cell? w _ hx335_3)).trans hx335_3; replace hx335_4 := (HB.out.cell (World.block_lt_of_cell? w _ hx335_4)).trans hx335_4; replace p335 := eq_true p335; replace q335 := eq_true q335) | (go_at_call 80; (with_reducible refine (spec_NodeCount.calls a0_0 a0_1 t336 _ A13.out).mono ?_); rintro e w20 ⟨rfl, hb⟩; replace BK333 := Aside0.mk (bk_ BK333.out hb); replace HB := Aside0.mk (bs_ HB.out hb); (try clear hb); obtain ⟨hcz21_0, hcz21_1, hcz21_2, hcz21_3, hcz21_4, hcz21_5, hcz21_6, hcz21_7, hcz21_8, hcz21_9, hcz21_10, hfz21_0, hfz21_1, hfz21_2, hfz21_3, hfz21_4, hfz21_5, hfz21_6, hfz21_7, hfz21_8, hfz21_9, hfz21_10⟩ := cz11_ BK333.out; have p337 : 0 ≤ (0 : Int) := (by omega); have q337 : 0 < ((rd_L5 l0_5 (ji4)).length : Int) := of_decide_eq_true dg_; obtain ⟨ad337, e337, hx337_0, hx337_1, hx337_2, hx337_3, hx337_4⟩ := at_T97 HR334_0.out 0 p337 q337; (try rw [← Nbq11.out] at hx337_3); (try rw [← Nbq11.out] at hx337_4); obtain rfl : ad335 = ad337 := (by injection e337); have qi337 : (0 < (rd_L5 l0_5 (ji4)).length) = True := eq_true (by omega); (try rw [show ((0 : Int)).toNat = 0 from rfl] at hx337_0); (try rw [show 0 * 5 = 0 from rfl] at hx337_0); (try rw [Addr.add_zero'] at hx337_0); (try rw [show ((0 : Int)).toNat = 0 from rfl] at hx337_1); (try rw [show 0 * 5 = 0 from rfl] at hx337_1); (try rw [Addr.add_zero'] at hx337_1); (try rw [show ((0 : Int)).toNat = 0 from rfl] at hx337_2); (try rw [show 0 * 5 = 0 from rfl] at hx337_2); (try rw [Addr.add_zero'] at hx337_2); (try rw [show ((0 : Int)).toNat = 0 from rfl] at hx337_3); (try rw [show 0 * 5 = 0 from rfl] at hx337_3); (try rw [Addr.add_zero'] at hx337_3); (try rw [show ((0 : Int)).toNat = 0 from rfl] at hx337_4); (try rw [show 0 * 5 = 0 from rfl] at hx337_4); (try rw [Addr.add_zero'] at hx337_4); replace hx337_0 := (HB.out.cell (World.block_lt_of_cell? w _ hx337_0)).trans hx337_0; replace hx337_1 := (HB.out.cell (World.block_lt_of_cell? w _ hx337_1)).trans hx337_1; replace hx337_2 := (HB.out.cell (World.block_lt_of_cell? w _ hx337_2)).trans hx337_2; replace hx337_3 := (HB.out.cell (World.block_lt_of_cell? w _ hx337_3)).trans hx337_3; replace hx337_4 := (HB.out.cell (World.block_lt_of_cell? w _ hx337_4)).trans hx337_4; replace p337 := eq_true p337; replace q337 := eq_true q337; have p338 : 0 ≤ ((ji15) : Int) := of_decide_eq_true dg_; have q338 : (ji15) < (l0_4.length : Int) := of_decide_eq_true dg_; obtain ⟨ad338, e338, hx338_0⟩ := Kd.at_int HR0_4.out (ji15) p338 q338; cases e338; replace hx338_0 := (HB.out.cell (World.block_lt_of_cell? w _ hx338_0)).trans hx338_0; replace p338 := eq_true p338; replace q338 := eq_true q338))
         repeat (go_quiet (first | ((with_reducible refine gate_dst (N := 3) rfl ?_); refine box_event ?hg (N := 3) ?hd (cs := #[.int .i64 a0_0, .int .i64 a0_1, .slice A0_2 l0_2.length c0_2, .slice A0_3 l0_3.length c0_3, .slice A0_4 l0_4.length c0_4, .slice A0_5 l0_5.length c0_5, .slice A0_6 l0_6.length c0_6, .slice A0_7 l0_7.length c0_7, .slice A0_8 l0_8.length c0_8, .slice A0_9 l0_9.length c0_9, .int .i64 a0_10]) (t := 44) ?hr ?_; (case hd => rfl); (case hg => rfl); (case hr => first | (go_simp; done) | (go_simp; rfl)); intro gb333 hg w18 hbox hb; have BK333 := Aside0.mk (hbox); have GW333 := Aside0.mk ((by rw [hg]; exact (bz_ HB.out) : w.heap.size ≤ gb333)); have GE333 := Aside0.mk ((by rw [hg]; exact (bz_ HB.out) : w.heap.size ≤ gb333)); replace HB := Aside0.mk (bs_ HB.out hb); clear hb hbox hg; obtain ⟨hcz19_0, hcz19_1, hcz19_2, hcz19_3, hcz19_4, hcz19_5, hcz19_6, hcz19_7, hcz19_8, hcz19_9, hcz19_10, hfz19_0, hfz19_1, hfz19_2, hfz19_3, hfz19_4, hfz19_5, hfz19_6, hfz19_7, hfz19_8, hfz19_9, hfz19_10⟩ := cz11_ BK333.out; have p334 : 0 ≤ ((ji4) : Int) := of_decide_eq_true dg_; have q334 : (ji4) < (l0_5.length : Int) := of_decide_eq_true dg_; obtain ⟨ad334, A334_0, c334_0, e334, hx334_0, hl334_0, hi334_0⟩ := at_L5 HR0_5.out (ji4) p334 q334; cases e334; replace hx334_0 := (HB.out.cell (World.block_lt_of_cell? w _ hx334_0)).trans hx334_0; have HR334_0 := Aside0.mk hi334_0; have HC334_0 := Aside0.mk hl334_0; clear hi334_0 hl334_0; replace p334 := eq_true p334; replace q334 := eq_true q334; have p335 : 0 ≤ (0 : Int) := (by omega); have q335 : 0 < ((rd_L5 l0_5 (ji4)).length : Int) := of_decide_eq_true dg_; obtain ⟨ad335, e335, hx335_0, hx335_1, hx335_2, hx335_3, hx335_4⟩ := at_T97 HR334_0.out 0 p335 q335; (try rw [← Nbq11.out] at hx335_3); (try rw [← Nbq11.out] at hx335_4); cases e335; have qi335 : (0 < (rd_L5 l0_5 (ji4)).length) = True := eq_true (by omega); (try rw [show ((0 : Int)).toNat = 0 from rfl] at hx335_0); (try rw [show 0 * 5 = 0 from rfl] at hx335_0); (try rw [Addr.add_zero'] at hx335_0); (try rw [show ((0 : Int)).toNat = 0 from rfl] at hx335_1); (try rw [show 0 * 5 = 0 from rfl] at hx335_1); (try rw [Addr.add_zero'] at hx335_1); (try rw [show ((0 : Int)).toNat = 0 from rfl] at hx335_2); (try rw [show 0 * 5 = 0 from rfl] at hx335_2); (try rw [Addr.add_zero'] at hx335_2); (try rw [show ((0 : Int)).toNat = 0 from rfl] at hx335_3); (try rw [show 0 * 5 = 0 from rfl] at hx335_3); (try rw [Addr.add_zero'] at hx335_3); (try rw [show ((0 : Int)).toNat = 0 from rfl] at hx335_4); (try rw [show 0 * 5 = 0 from rfl] at hx335_4); (try rw [Addr.add_zero'] at hx335_4); replace hx335_0 := (HB.out.cell (World.block_lt_of_cell? w _ hx335_0)).trans hx335_0; replace hx335_1 := (HB.out.cell (World.block_lt_of_cell? w _ hx335_1)).trans hx335_1; replace hx335_2 := (HB.out.cell (World.block_lt_of_cell? w _ hx335_2)).trans hx335_2; replace hx335_3 := (HB.out.cell (World.block_lt_of_cell? w _ hx335_3)).trans hx335_3; replace hx335_4 := (HB.out.cell (World.block_lt_of_cell? w _ hx335_4)).trans hx335_4; replace p335 := eq_true p335; replace q335 := eq_true q335) | (go_at_call 80; (with_reducible refine (spec_NodeCount.calls a0_0 a0_1 t336 _ A13.out).mono ?_); rintro e w20 ⟨rfl, hb⟩; replace BK333 := Aside0.mk (bk_ BK333.out hb); replace HB := Aside0.mk (bs_ HB.out hb); (try clear hb); obtain ⟨hcz21_0, hcz21_1, hcz21_2, hcz21_3, hcz21_4, hcz21_5, hcz21_6, hcz21_7, hcz21_8, hcz21_9, hcz21_10, hfz21_0, hfz21_1, hfz21_2, hfz21_3, hfz21_4, hfz21_5, hfz21_6, hfz21_7, hfz21_8, hfz21_9, hfz21_10⟩ := cz11_ BK333.out; have p337 : 0 ≤ (0 : Int) := (by omega); have q337 : 0 < ((rd_L5 l0_5 (ji4)).length : Int) := of_decide_eq_true dg_; obtain ⟨ad337, e337, hx337_0, hx337_1, hx337_2, hx337_3, hx337_4⟩ := at_T97 HR334_0.out 0 p337 q337; (try rw [← Nbq11.out] at hx337_3); (try rw [← Nbq11.out] at hx337_4); obtain rfl : ad335 = ad337 := (by injection e337); have qi337 : (0 < (rd_L5 l0_5 (ji4)).length) = True := eq_true (by omega); (try rw [show ((0 : Int)).toNat = 0 from rfl] at hx337_0); (try rw [show 0 * 5 = 0 from rfl] at hx337_0); (try rw [Addr.add_zero'] at hx337_0); (try rw [show ((0 : Int)).toNat = 0 from rfl] at hx337_1); (try rw [show 0 * 5 = 0 from rfl] at hx337_1); (try rw [Addr.add_zero'] at hx337_1); (try rw [show ((0 : Int)).toNat = 0 from rfl] at hx337_2); (try rw [show 0 * 5 = 0 from rfl] at hx337_2); (try rw [Addr.add_zero'] at hx337_2); (try rw [show ((0 : Int)).toNat = 0 from rfl] at hx337_3); (try rw [show 0 * 5 = 0 from rfl] at hx337_3); (try rw [Addr.add_zero'] at hx337_3); (try rw [show ((0 : Int)).toNat = 0 from rfl] at hx337_4); (try rw [show 0 * 5 = 0 from rfl] at hx337_4); (try rw [Addr.add_zero'] at hx337_4); replace hx337_0 := (HB.out.cell (World.block_lt_of_cell? w _ hx337_0)).trans hx337_0; replace hx337_1 := (HB.out.cell (World.block_lt_of_cell? w _ hx337_1)).trans hx337_1; replace hx337_2 := (HB.out.cell (World.block_lt_of_cell? w _ hx337_2)).trans hx337_2; replace hx337_3 := (HB.out.cell (World.block_lt_of_cell? w _ hx337_3)).trans hx337_3; replace hx337_4 := (HB.out.cell (World.block_lt_of_cell? w _ hx337_4)).trans hx337_4; replace p337 := eq_true p337; replace q337 := eq_true q337; have p338 : 0 ≤ ((ji15) : Int) := of_decide_eq_true dg_; have q338 : (ji15) < (l0_4.length : Int) := of_decide_eq_true dg_; obtain ⟨ad338, e338, hx338_0⟩ := Kd.at_int HR0_4.out (ji15) p338 q338; cases e338; replace hx338_0 := (HB.out.cell (World.block_lt_of_cell? w _ hx338_0)).trans hx338_0; replace p338 := eq_true p338; replace q338 := eq_true q338)); try go_wp2_with (first | ((with_reducible refine gate_dst (N := 3) rfl ?_); refine box_event ?hg (N := 3) ?hd (cs := #[.int .i64 a0_0, .int .i64 a0_1, .slice A0_2 l0_2.length c0_2, .slice A0_3 l0_3.length c0_3, .slice A0_4 l0_4.length c0_4, .slice A0_5 l0_5.length c0_5, .slice A0_6 l0_6.length c0_6, .slice A0_7 l0_7.length c0_7, .slice A0_8 l0_8.length c0_8, .slice A0_9 l0_9.length c0_9, .int .i64 a0_10]) (t := 44) ?hr ?_; (case hd => rfl); (case hg => rfl); (case hr => first | (go_simp; done) | (go_simp; rfl)); intro gb333 hg w18 hbox hb; have BK333 := Aside0.mk (hbox); have GW333 := Aside0.mk ((by rw [hg]; exact (bz_ HB.out) : w.heap.size ≤ gb333)); have GE333 := Aside0.mk ((by rw [hg]; exact (bz_ HB.out) : w.heap.size ≤ gb333)); replace HB := Aside0.mk (bs_ HB.out hb); clear hb hbox hg; obtain ⟨hcz19_0, hcz19_1, hcz19_2, hcz19_3, hcz19_4, hcz19_5, hcz19_6, hcz19_7, hcz19_8, hcz19_9, hcz19_10, hfz19_0, hfz19_1, hfz19_2, hfz19_3, hfz19_4, hfz19_5, hfz19_6, hfz19_7, hfz19_8, hfz19_9, hfz19_10⟩ := cz11_ BK333.out; have p334 : 0 ≤ ((ji4) : Int) := of_decide_eq_true dg_; have q334 : (ji4) < (l0_5.length : Int) := of_decide_eq_true dg_; obtain ⟨ad334, A334_0, c334_0, e334, hx334_0, hl334_0, hi334_0⟩ := at_L5 HR0_5.out (ji4) p334 q334; cases e334; replace hx334_0 := (HB.out.cell (World.block_lt_of_cell? w _ hx334_0)).trans hx334_0; have HR334_0 := Aside0.mk hi334_0; have HC334_0 := Aside0.mk hl334_0; clear hi334_0 hl334_0; replace p334 := eq_true p334; replace q334 := eq_true q334; have p335 : 0 ≤ (0 : Int) := (by omega); have q335 : 0 < ((rd_L5 l0_5 (ji4)).length : Int) := of_decide_eq_true dg_; obtain ⟨ad335, e335, hx335_0, hx335_1, hx335_2, hx335_3, hx335_4⟩ := at_T97 HR334_0.out 0 p335 q335; (try rw [← Nbq11.out] at hx335_3); (try rw [← Nbq11.out] at hx335_4); cases e335; have qi335 : (0 < (rd_L5 l0_5 (ji4)).length) = True := eq_true (by omega); (try rw [show ((0 : Int)).toNat = 0 from rfl] at hx335_0); (try rw [show 0 * 5 = 0 from rfl] at hx335_0); (try rw [Addr.add_zero'] at hx335_0); (try rw [show ((0 : Int)).toNat = 0 from rfl] at hx335_1); (try rw [show 0 * 5 = 0 from rfl] at hx335_1); (try rw [Addr.add_zero'] at hx335_1); (try rw [show ((0 : Int)).toNat = 0 from rfl] at hx335_2); (try rw [show 0 * 5 = 0 from rfl] at hx335_2); (try rw [Addr.add_zero'] at hx335_2); (try rw [show ((0 : Int)).toNat = 0 from rfl] at hx335_3); (try rw [show 0 * 5 = 0 from rfl] at hx335_3); (try rw [Addr.add_zero'] at hx335_3); (try rw [show ((0 : Int)).toNat = 0 from rfl] at hx335_4); (try rw [show 0 * 5 = 0 from rfl] at hx335_4); (try rw [Addr.add_zero'] at hx335_4); replace hx335_0 := (HB.out.cell (World.block_lt_of_cell? w _ hx335_0)).trans hx335_0; replace hx335_1 := (HB.out.cell (World.block_lt_of_cell? w _ hx335_1)).trans hx335_1; replace hx335_2 := (HB.out.cell (World.block_lt_of_cell? w _ hx335_2)).trans hx335_2; replace hx335_3 := (HB.out.cell (World.block_lt_of_cell? w _ hx335_3)).trans hx335_3; replace hx335_4 := (HB.out.cell (World.block_lt_of_cell? w _ hx335_4)).trans hx335_4; replace p335 := eq_true p335; replace q335 := eq_true q335) | (go_at_call 80; (with_reducible refine (spec_NodeCount.calls a0_0 a0_1 t336 _ A13.out).mono ?_); rintro e w20 ⟨rfl, hb⟩; replace BK333 := Aside0.mk (bk_ BK333.out hb); replace HB := Aside0.mk (bs_ HB.out hb); (try clear hb); obtain ⟨hcz21_0, hcz21_1, hcz21_2, hcz21_3, hcz21_4, hcz21_5, hcz21_6, hcz21_7, hcz21_8, hcz21_9, hcz21_10, hfz21_0, hfz21_1, hfz21_2, hfz21_3, hfz21_4, hfz21_5, hfz21_6, hfz21_7, hfz21_8, hfz21_9, hfz21_10⟩ := cz11_ BK333.out; have p337 : 0 ≤ (0 : Int) := (by omega); have q337 : 0 < ((rd_L5 l0_5 (ji4)).length : Int) := of_decide_eq_true dg_; obtain ⟨ad337, e337, hx337_0, hx337_1, hx337_2, hx337_3, hx337_4⟩ := at_T97 HR334_0.out 0 p337 q337; (try rw [← Nbq11.out] at hx337_3); (try rw [← Nbq11.out] at hx337_4); obtain rfl : ad335 = ad337 := (by injection e337); have qi337 : (0 < (rd_L5 l0_5 (ji4)).length) = True := eq_true (by omega); (try rw [show ((0 : Int)).toNat = 0 from rfl] at hx337_0); (try rw [show 0 * 5 = 0 from rfl] at hx337_0); (try rw [Addr.add_zero'] at hx337_0); (try rw [show ((0 : Int)).toNat = 0 from rfl] at hx337_1); (try rw [show 0 * 5 = 0 from rfl] at hx337_1); (try rw [Addr.add_zero'] at hx337_1); (try rw [show ((0 : Int)).toNat = 0 from rfl] at hx337_2); (try rw [show 0 * 5 = 0 from rfl] at hx337_2); (try rw [Addr.add_zero'] at hx337_2); (try rw [show ((0 : Int)).toNat = 0 from rfl] at hx337_3); (try rw [show 0 * 5 = 0 from rfl] at hx337_3); (try rw [Addr.add_zero'] at hx337_3); (try rw [show ((0 : Int)).toNat = 0 from rfl] at hx337_4); (try rw [show 0 * 5 = 0 from rfl] at hx337_4); (try rw [Addr.add_zero'] at hx337_4); replace hx337_0 := (HB.out.cell (World.block_lt_of_cell? w _ hx337_0)).trans hx337_0; replace hx337_1 := (HB.out.cell (World.block_lt_of_cell? w _ hx337_1)).trans hx337_1; replace hx337_2 := (HB.out.cell (World.block_lt_of_cell? w _ hx337_2)).trans hx337_2; replace hx337_3 := (HB.out.cell (World.block_lt_of_cell? w _ hx337_3)).trans hx337_3; replace hx337_4 := (HB.out.cell (World.block_lt_of_cell? w _ hx337_4)).trans hx337_4; replace p337 := eq_true p337; replace q337 := eq_true q337; have p338 : 0 ≤ ((ji15) : Int) := of_decide_eq_true dg_; have q338 : (ji15) < (l0_4.length : Int) := of_decide_eq_true dg_; obtain ⟨ad338, e338, hx338_0⟩ := Kd.at_int HR0_4.out (ji15) p338 q338; cases e338; replace hx338_0 := (HB.out.cell (World.block_lt_of_cell? w _ hx338_0)).trans hx338_0; replace p338 := eq_true p338; replace q338 := eq_true q338)))
         go_ret
         exact ⟨by first | rfl | (simp [errW_none, errW_some] <;> rfl) | (simp only [← hji4, ← hji15]; first | rfl | (simp [errW_none, errW_some] <;> rfl)) | (simp [*, errW_none, errW_some] <;> rfl), bb_ HB.out⟩
        ·rw [if_neg c17] at H
         exact absurd H (by simp)
       ·rw [if_neg c16] at H
        exact absurd H (by simp)
      ·rw [if_neg c14] at H
       have c14b0 : ((Int.tmod a2 2) == 1) = false := beq_eq_false_iff_ne.mpr c14
       have c14b1 : ((Int.tmod a2 2) != 1) = true := bne_iff_ne.mpr c14
       obtain ⟨ji22, hji22⟩ : ∃ j_ : Int, (wrap64 ((wrap64 (a1 * t336)) + ((rd_T97 (rd_L5 l0_5 (ji4)) 0).f1))) = j_ := ⟨_, rfl⟩
       replace H : (if 0 ≤ (ji22) then (if (ji22) < (l0_3.length : Int) then (some (rd l0_3 (ji22))) else (none)) else (none)) = some r := by first | (rw [hji22] at H; exact H) | (simp only [hji22] at H ⊢; exact H)
       (try rw [hji22] at A13)
       have hji22w : (IntKind.i64.wrap ((wrap64 (a1 * t336)) + ((rd_T97 (rd_L5 l0_5 (ji4)) 0).f1))) = ji22 := (i64_w _).trans hji22
       by_cases c23 : 0 ≤ (ji22)
       ·rw [if_pos c23] at H
        have c23b0 : decide (0 ≤ (ji22)) = true := decide_eq_true c23
        clear c23
        by_cases c24 : (ji22) < (l0_3.length : Int)
        ·rw [if_pos c24] at H
         have c24b0 : decide ((ji22) < (l0_3.length : Int)) = true := decide_eq_true c24
         clear c24
         obtain rfl := Option.some.inj H
         go_enter Try.func68, Try.ntmps68
         go_wp2_with (first | ((with_reducible refine gate_dst (N := 3) rfl ?_); refine box_event ?hg (N := 3) ?hd (cs := #[.int .i64 a0_0, .int .i64 a0_1, .slice A0_2 l0_2.length c0_2, .slice A0_3 l0_3.length c0_3, .slice A0_4 l0_4.length c0_4, .slice A0_5 l0_5.length c0_5, .slice A0_6 l0_6.length c0_6, .slice A0_7 l0_7.length c0_7, .slice A0_8 l0_8.length c0_8, .slice A0_9 l0_9.length c0_9, .int .i64 a0_10]) (t := 44) ?hr ?_; (case hd => rfl); (case hg => rfl); (case hr => first | (go_simp; done) | (go_simp; rfl)); intro gb333 hg w25 hbox hb; have BK333 := Aside0.mk (hbox); have GW333 := Aside0.mk ((by rw [hg]; exact (bz_ HB.out) : w.heap.size ≤ gb333)); have GE333 := Aside0.mk ((by rw [hg]; exact (bz_ HB.out) : w.heap.size ≤ gb333)); replace HB := Aside0.mk (bs_ HB.out hb); clear hb hbox hg; obtain ⟨hcz26_0, hcz26_1, hcz26_2, hcz26_3, hcz26_4, hcz26_5, hcz26_6, hcz26_7, hcz26_8, hcz26_9, hcz26_10, hfz26_0, hfz26_1, hfz26_2, hfz26_3, hfz26_4, hfz26_5, hfz26_6, hfz26_7, hfz26_8, hfz26_9, hfz26_10⟩ := cz11_ BK333.out; have p334 : 0 ≤ ((ji4) : Int) := of_decide_eq_true dg_; have q334 : (ji4) < (l0_5.length : Int) := of_decide_eq_true dg_; obtain ⟨ad334, A334_0, c334_0, e334, hx334_0, hl334_0, hi334_0⟩ := at_L5 HR0_5.out (ji4) p334 q334; cases e334; replace hx334_0 := (HB.out.cell (World.block_lt_of_cell? w _ hx334_0)).trans hx334_0; have HR334_0 := Aside0.mk hi334_0; have HC334_0 := Aside0.mk hl334_0; clear hi334_0 hl334_0; replace p334 := eq_true p334; replace q334 := eq_true q334; have p335 : 0 ≤ (0 : Int) := (by omega); have q335 : 0 < ((rd_L5 l0_5 (ji4)).length : Int) := of_decide_eq_true dg_; obtain ⟨ad335, e335, hx335_0, hx335_1, hx335_2, hx335_3, hx335_4⟩ := at_T97 HR334_0.out 0 p335 q335; (try rw [← Nbq11.out] at hx335_3); (try rw [← Nbq11.out] at hx335_4); cases e335; have qi335 : (0 < (rd_L5 l0_5 (ji4)).length) = True := eq_true (by omega); (try rw [show ((0 : Int)).toNat = 0 from rfl] at hx335_0); (try rw [show 0 * 5 = 0 from rfl] at hx335_0); (try rw [Addr.add_zero'] at hx335_0); (try rw [show ((0 : Int)).toNat = 0 from rfl] at hx335_1); (try rw [show 0 * 5 = 0 from rfl] at hx335_1); (try rw [Addr.add_zero'] at hx335_1); (try rw [show ((0 : Int)).toNat = 0 from rfl] at hx335_2); (try rw [show 0 * 5 = 0 from rfl] at hx335_2); (try rw [Addr.add_zero'] at hx335_2); (try rw [show ((0 : Int)).toNat = 0 from rfl] at hx335_3); (try rw [show 0 * 5 = 0 from rfl] at hx335_3); (try rw [Addr.add_zero'] at hx335_3); (try rw [show ((0 : Int)).toNat = 0 from rfl] at hx335_4); (try rw [show 0 * 5 = 0 from rfl] at hx335_4); (try rw [Addr.add_zero'] at hx335_4); replace hx335_0 := (HB.out.cell (World.block_lt_of_cell? w _ hx335_0)).trans hx335_0; replace hx335_1 := (HB.out.cell (World.block_lt_of_cell? w _ hx335_1)).trans hx335_1; replace hx335_2 := (HB.out.cell (World.block_lt_of_cell? w _ hx335_2)).trans hx335_2; replace hx335_3 := (HB.out.cell (World.block_lt_of_cell? w _ hx335_3)).trans hx335_3; replace hx335_4 := (HB.out.cell (World.block_lt_of_cell? w _ hx335_4)).trans hx335_4; replace p335 := eq_true p335; replace q335 := eq_true q335) | (go_at_call 80; (with_reducible refine (spec_NodeCount.calls a0_0 a0_1 t336 _ A13.out).mono ?_); rintro e w27 ⟨rfl, hb⟩; replace BK333 := Aside0.mk (bk_ BK333.out hb); replace HB := Aside0.mk (bs_ HB.out hb); (try clear hb); obtain ⟨hcz28_0, hcz28_1, hcz28_2, hcz28_3, hcz28_4, hcz28_5, hcz28_6, hcz28_7, hcz28_8, hcz28_9, hcz28_10, hfz28_0, hfz28_1, hfz28_2, hfz28_3, hfz28_4, hfz28_5, hfz28_6, hfz28_7, hfz28_8, hfz28_9, hfz28_10⟩ := cz11_ BK333.out; have p339 : 0 ≤ (0 : Int) := (by omega); have q339 : 0 < ((rd_L5 l0_5 (ji4)).length : Int) := of_decide_eq_true dg_; obtain ⟨ad339, e339, hx339_0, hx339_1, hx339_2, hx339_3, hx339_4⟩ := at_T97 HR334_0.out 0 p339 q339; (try rw [← Nbq11.out] at hx339_3); (try rw [← Nbq11.out] at hx339_4); obtain rfl : ad335 = ad339 := (by injection e339); have qi339 : (0 < (rd_L5 l0_5 (ji4)).length) = True := eq_true (by omega); (try rw [show ((0 : Int)).toNat = 0 from rfl] at hx339_0); (try rw [show 0 * 5 = 0 from rfl] at hx339_0); (try rw [Addr.add_zero'] at hx339_0); (try rw [show ((0 : Int)).toNat = 0 from rfl] at hx339_1); (try rw [show 0 * 5 = 0 from rfl] at hx339_1); (try rw [Addr.add_zero'] at hx339_1); (try rw [show ((0 : Int)).toNat = 0 from rfl] at hx339_2); (try rw [show 0 * 5 = 0 from rfl] at hx339_2); (try rw [Addr.add_zero'] at hx339_2); (try rw [show ((0 : Int)).toNat = 0 from rfl] at hx339_3); (try rw [show 0 * 5 = 0 from rfl] at hx339_3); (try rw [Addr.add_zero'] at hx339_3); (try rw [show ((0 : Int)).toNat = 0 from rfl] at hx339_4); (try rw [show 0 * 5 = 0 from rfl] at hx339_4); (try rw [Addr.add_zero'] at hx339_4); replace hx339_0 := (HB.out.cell (World.block_lt_of_cell? w _ hx339_0)).trans hx339_0; replace hx339_1 := (HB.out.cell (World.block_lt_of_cell? w _ hx339_1)).trans hx339_1; replace hx339_2 := (HB.out.cell (World.block_lt_of_cell? w _ hx339_2)).trans hx339_2; replace hx339_3 := (HB.out.cell (World.block_lt_of_cell? w _ hx339_3)).trans hx339_3; replace hx339_4 := (HB.out.cell (World.block_lt_of_cell? w _ hx339_4)).trans hx339_4; replace p339 := eq_true p339; replace q339 := eq_true q339; have p340 : 0 ≤ ((ji22) : Int) := of_decide_eq_true dg_; have q340 : (ji22) < (l0_3.length : Int) := of_decide_eq_true dg_; obtain ⟨ad340, e340, hx340_0⟩ := Kd.at_int HR0_3.out (ji22) p340 q340; cases e340; replace hx340_0 := (HB.out.cell (World.block_lt_of_cell? w _ hx340_0)).trans hx340_0; replace p340 := eq_true p340; replace q340 := eq_true q340))
         repeat (go_quiet (first | ((with_reducible refine gate_dst (N := 3) rfl ?_); refine box_event ?hg (N := 3) ?hd (cs := #[.int .i64 a0_0, .int .i64 a0_1, .slice A0_2 l0_2.length c0_2, .slice A0_3 l0_3.length c0_3, .slice A0_4 l0_4.length c0_4, .slice A0_5 l0_5.length c0_5, .slice A0_6 l0_6.length c0_6, .slice A0_7 l0_7.length c0_7, .slice A0_8 l0_8.length c0_8, .slice A0_9 l0_9.length c0_9, .int .i64 a0_10]) (t := 44) ?hr ?_; (case hd => rfl); (case hg => rfl); (case hr => first | (go_simp; done) | (go_simp; rfl)); intro gb333 hg w25 hbox hb; have BK333 := Aside0.mk (hbox); have GW333 := Aside0.mk ((by rw [hg]; exact (bz_ HB.out) : w.heap.size ≤ gb333)); have GE333 := Aside0.mk ((by rw [hg]; exact (bz_ HB.out) : w.heap.size ≤ gb333)); replace HB := Aside0.mk (bs_ HB.out hb); clear hb hbox hg; obtain ⟨hcz26_0, hcz26_1, hcz26_2, hcz26_3, hcz26_4, hcz26_5, hcz26_6, hcz26_7, hcz26_8, hcz26_9, hcz26_10, hfz26_0, hfz26_1, hfz26_2, hfz26_3, hfz26_4, hfz26_5, hfz26_6, hfz26_7, hfz26_8, hfz26_9, hfz26_10⟩ := cz11_ BK333.out; have p334 : 0 ≤ ((ji4) : Int) := of_decide_eq_true dg_; have q334 : (ji4) < (l0_5.length : Int) := of_decide_eq_true dg_; obtain ⟨ad334, A334_0, c334_0, e334, hx334_0, hl334_0, hi334_0⟩ := at_L5 HR0_5.out (ji4) p334 q334; cases e334; replace hx334_0 := (HB.out.cell (World.block_lt_of_cell? w _ hx334_0)).trans hx334_0; have HR334_0 := Aside0.mk hi334_0; have HC334_0 := Aside0.mk hl334_0; clear hi334_0 hl334_0; replace p334 := eq_true p334; replace q334 := eq_true q334; have p335 : 0 ≤ (0 : Int) := (by omega); have q335 : 0 < ((rd_L5 l0_5 (ji4)).length : Int) := of_decide_eq_true dg_; obtain ⟨ad335, e335, hx335_0, hx335_1, hx335_2, hx335_3, hx335_4⟩ := at_T97 HR334_0.out 0 p335 q335; (try rw [← Nbq11.out] at hx335_3); (try rw [← Nbq11.out] at hx335_4); cases e335; have qi335 : (0 < (rd_L5 l0_5 (ji4)).length) = True := eq_true (by omega); (try rw [show ((0 : Int)).toNat = 0 from rfl] at hx335_0); (try rw [show 0 * 5 = 0 from rfl] at hx335_0); (try rw [Addr.add_zero'] at hx335_0); (try rw [show ((0 : Int)).toNat = 0 from rfl] at hx335_1); (try rw [show 0 * 5 = 0 from rfl] at hx335_1); (try rw [Addr.add_zero'] at hx335_1); (try rw [show ((0 : Int)).toNat = 0 from rfl] at hx335_2); (try rw [show 0 * 5 = 0 from rfl] at hx335_2); (try rw [Addr.add_zero'] at hx335_2); (try rw [show ((0 : Int)).toNat = 0 from rfl] at hx335_3); (try rw [show 0 * 5 = 0 from rfl] at hx335_3); (try rw [Addr.add_zero'] at hx335_3); (try rw [show ((0 : Int)).toNat = 0 from rfl] at hx335_4); (try rw [show 0 * 5 = 0 from rfl] at hx335_4); (try rw [Addr.add_zero'] at hx335_4); replace hx335_0 := (HB.out.cell (World.block_lt_of_cell? w _ hx335_0)).trans hx335_0; replace hx335_1 := (HB.out.cell (World.block_lt_of_cell? w _ hx335_1)).trans hx335_1; replace hx335_2 := (HB.out.cell (World.block_lt_of_cell? w _ hx335_2)).trans hx335_2; replace hx335_3 := (HB.out.cell (World.block_lt_of_cell? w _ hx335_3)).trans hx335_3; replace hx335_4 := (HB.out.cell (World.block_lt_of_cell? w _ hx335_4)).trans hx335_4; replace p335 := eq_true p335; replace q335 := eq_true q335) | (go_at_call 80; (with_reducible refine (spec_NodeCount.calls a0_0 a0_1 t336 _ A13.out).mono ?_); rintro e w27 ⟨rfl, hb⟩; replace BK333 := Aside0.mk (bk_ BK333.out hb); replace HB := Aside0.mk (bs_ HB.out hb); (try clear hb); obtain ⟨hcz28_0, hcz28_1, hcz28_2, hcz28_3, hcz28_4, hcz28_5, hcz28_6, hcz28_7, hcz28_8, hcz28_9, hcz28_10, hfz28_0, hfz28_1, hfz28_2, hfz28_3, hfz28_4, hfz28_5, hfz28_6, hfz28_7, hfz28_8, hfz28_9, hfz28_10⟩ := cz11_ BK333.out; have p339 : 0 ≤ (0 : Int) := (by omega); have q339 : 0 < ((rd_L5 l0_5 (ji4)).length : Int) := of_decide_eq_true dg_; obtain ⟨ad339, e339, hx339_0, hx339_1, hx339_2, hx339_3, hx339_4⟩ := at_T97 HR334_0.out 0 p339 q339; (try rw [← Nbq11.out] at hx339_3); (try rw [← Nbq11.out] at hx339_4); obtain rfl : ad335 = ad339 := (by injection e339); have qi339 : (0 < (rd_L5 l0_5 (ji4)).length) = True := eq_true (by omega); (try rw [show ((0 : Int)).toNat = 0 from rfl] at hx339_0); (try rw [show 0 * 5 = 0 from rfl] at hx339_0); (try rw [Addr.add_zero'] at hx339_0); (try rw [show ((0 : Int)).toNat = 0 from rfl] at hx339_1); (try rw [show 0 * 5 = 0 from rfl] at hx339_1); (try rw [Addr.add_zero'] at hx339_1); (try rw [show ((0 : Int)).toNat = 0 from rfl] at hx339_2); (try rw [show 0 * 5 = 0 from rfl] at hx339_2); (try rw [Addr.add_zero'] at hx339_2); (try rw [show ((0 : Int)).toNat = 0 from rfl] at hx339_3); (try rw [show 0 * 5 = 0 from rfl] at hx339_3); (try rw [Addr.add_zero'] at hx339_3); (try rw [show ((0 : Int)).toNat = 0 from rfl] at hx339_4); (try rw [show 0 * 5 = 0 from rfl] at hx339_4); (try rw [Addr.add_zero'] at hx339_4); replace hx339_0 := (HB.out.cell (World.block_lt_of_cell? w _ hx339_0)).trans hx339_0; replace hx339_1 := (HB.out.cell (World.block_lt_of_cell? w _ hx339_1)).trans hx339_1; replace hx339_2 := (HB.out.cell (World.block_lt_of_cell? w _ hx339_2)).trans hx339_2; replace hx339_3 := (HB.out.cell (World.block_lt_of_cell? w _ hx339_3)).trans hx339_3; replace hx339_4 := (HB.out.cell (World.block_lt_of_cell? w _ hx339_4)).trans hx339_4; replace p339 := eq_true p339; replace q339 := eq_true q339; have p340 : 0 ≤ ((ji22) : Int) := of_decide_eq_true dg_; have q340 : (ji22) < (l0_3.length : Int) := of_decide_eq_true dg_; obtain ⟨ad340, e340, hx340_0⟩ := Kd.at_int HR0_3.out (ji22) p340 q340; cases e340; replace hx340_0 := (HB.out.cell (World.block_lt_of_cell? w _ hx340_0)).trans hx340_0; replace p340 := eq_true p340; replace q340 := eq_true q340)); try go_wp2_with (first | ((with_reducible refine gate_dst (N := 3) rfl ?_); refine box_event ?hg (N := 3) ?hd (cs := #[.int .i64 a0_0, .int .i64 a0_1, .slice A0_2 l0_2.length c0_2, .slice A0_3 l0_3.length c0_3, .slice A0_4 l0_4.length c0_4, .slice A0_5 l0_5.length c0_5, .slice A0_6 l0_6.length c0_6, .slice A0_7 l0_7.length c0_7, .slice A0_8 l0_8.length c0_8, .slice A0_9 l0_9.length c0_9, .int .i64 a0_10]) (t := 44) ?hr ?_; (case hd => rfl); (case hg => rfl); (case hr => first | (go_simp; done) | (go_simp; rfl)); intro gb333 hg w25 hbox hb; have BK333 := Aside0.mk (hbox); have GW333 := Aside0.mk ((by rw [hg]; exact (bz_ HB.out) : w.heap.size ≤ gb333)); have GE333 := Aside0.mk ((by rw [hg]; exact (bz_ HB.out) : w.heap.size ≤ gb333)); replace HB := Aside0.mk (bs_ HB.out hb); clear hb hbox hg; obtain ⟨hcz26_0, hcz26_1, hcz26_2, hcz26_3, hcz26_4, hcz26_5, hcz26_6, hcz26_7, hcz26_8, hcz26_9, hcz26_10, hfz26_0, hfz26_1, hfz26_2, hfz26_3, hfz26_4, hfz26_5, hfz26_6, hfz26_7, hfz26_8, hfz26_9, hfz26_10⟩ := cz11_ BK333.out; have p334 : 0 ≤ ((ji4) : Int) := of_decide_eq_true dg_; have q334 : (ji4) < (l0_5.length : Int) := of_decide_eq_true dg_; obtain ⟨ad334, A334_0, c334_0, e334, hx334_0, hl334_0, hi334_0⟩ := at_L5 HR0_5.out (ji4) p334 q334; cases e334; replace hx334_0 := (HB.out.cell (World.block_lt_of_cell? w _ hx334_0)).trans hx334_0; have HR334_0 := Aside0.mk hi334_0; have HC334_0 := Aside0.mk hl334_0; clear hi334_0 hl334_0; replace p334 := eq_true p334; replace q334 := eq_true q334; have p335 : 0 ≤ (0 : Int) := (by omega); have q335 : 0 < ((rd_L5 l0_5 (ji4)).length : Int) := of_decide_eq_true dg_; obtain ⟨ad335, e335, hx335_0, hx335_1, hx335_2, hx335_3, hx335_4⟩ := at_T97 HR334_0.out 0 p335 q335; (try rw [← Nbq11.out] at hx335_3); (try rw [← Nbq11.out] at hx335_4); cases e335; have qi335 : (0 < (rd_L5 l0_5 (ji4)).length) = True := eq_true (by omega); (try rw [show ((0 : Int)).toNat = 0 from rfl] at hx335_0); (try rw [show 0 * 5 = 0 from rfl] at hx335_0); (try rw [Addr.add_zero'] at hx335_0); (try rw [show ((0 : Int)).toNat = 0 from rfl] at hx335_1); (try rw [show 0 * 5 = 0 from rfl] at hx335_1); (try rw [Addr.add_zero'] at hx335_1); (try rw [show ((0 : Int)).toNat = 0 from rfl] at hx335_2); (try rw [show 0 * 5 = 0 from rfl] at hx335_2); (try rw [Addr.add_zero'] at hx335_2); (try rw [show ((0 : Int)).toNat = 0 from rfl] at hx335_3); (try rw [show 0 * 5 = 0 from rfl] at hx335_3); (try rw [Addr.add_zero'] at hx335_3); (try rw [show ((0 : Int)).toNat = 0 from rfl] at hx335_4); (try rw [show 0 * 5 = 0 from rfl] at hx335_4); (try rw [Addr.add_zero'] at hx335_4); replace hx335_0 := (HB.out.cell (World.block_lt_of_cell? w _ hx335_0)).trans hx335_0; replace hx335_1 := (HB.out.cell (World.block_lt_of_cell? w _ hx335_1)).trans hx335_1; replace hx335_2 := (HB.out.cell (World.block_lt_of_cell? w _ hx335_2)).trans hx335_2; replace hx335_3 := (HB.out.cell (World.block_lt_of_cell? w _ hx335_3)).trans hx335_3; replace hx335_4 := (HB.out.cell (World.block_lt_of_cell? w _ hx335_4)).trans hx335_4; replace p335 := eq_true p335; replace q335 := eq_true q335) | (go_at_call 80; (with_reducible refine (spec_NodeCount.calls a0_0 a0_1 t336 _ A13.out).mono ?_); rintro e w27 ⟨rfl, hb⟩; replace BK333 := Aside0.mk (bk_ BK333.out hb); replace HB := Aside0.mk (bs_ HB.out hb); (try clear hb); obtain ⟨hcz28_0, hcz28_1, hcz28_2, hcz28_3, hcz28_4, hcz28_5, hcz28_6, hcz28_7, hcz28_8, hcz28_9, hcz28_10, hfz28_0, hfz28_1, hfz28_2, hfz28_3, hfz28_4, hfz28_5, hfz28_6, hfz28_7, hfz28_8, hfz28_9, hfz28_10⟩ := cz11_ BK333.out; have p339 : 0 ≤ (0 : Int) := (by omega); have q339 : 0 < ((rd_L5 l0_5 (ji4)).length : Int) := of_decide_eq_true dg_; obtain ⟨ad339, e339, hx339_0, hx339_1, hx339_2, hx339_3, hx339_4⟩ := at_T97 HR334_0.out 0 p339 q339; (try rw [← Nbq11.out] at hx339_3); (try rw [← Nbq11.out] at hx339_4); obtain rfl : ad335 = ad339 := (by injection e339); have qi339 : (0 < (rd_L5 l0_5 (ji4)).length) = True := eq_true (by omega); (try rw [show ((0 : Int)).toNat = 0 from rfl] at hx339_0); (try rw [show 0 * 5 = 0 from rfl] at hx339_0); (try rw [Addr.add_zero'] at hx339_0); (try rw [show ((0 : Int)).toNat = 0 from rfl] at hx339_1); (try rw [show 0 * 5 = 0 from rfl] at hx339_1); (try rw [Addr.add_zero'] at hx339_1); (try rw [show ((0 : Int)).toNat = 0 from rfl] at hx339_2); (try rw [show 0 * 5 = 0 from rfl] at hx339_2); (try rw [Addr.add_zero'] at hx339_2); (try rw [show ((0 : Int)).toNat = 0 from rfl] at hx339_3); (try rw [show 0 * 5 = 0 from rfl] at hx339_3); (try rw [Addr.add_zero'] at hx339_3); (try rw [show ((0 : Int)).toNat = 0 from rfl] at hx339_4); (try rw [show 0 * 5 = 0 from rfl] at hx339_4); (try rw [Addr.add_zero'] at hx339_4); replace hx339_0 := (HB.out.cell (World.block_lt_of_cell? w _ hx339_0)).trans hx339_0; replace hx339_1 := (HB.out.cell (World.block_lt_of_cell? w _ hx339_1)).trans hx339_1; replace hx339_2 := (HB.out.cell (World.block_lt_of_cell? w _ hx339_2)).trans hx339_2; replace hx339_3 := (HB.out.cell (World.block_lt_of_cell? w _ hx339_3)).trans hx339_3; replace hx339_4 := (HB.out.cell (World.block_lt_of_cell? w _ hx339_4)).trans hx339_4; replace p339 := eq_true p339; replace q339 := eq_true q339; have p340 : 0 ≤ ((ji22) : Int) := of_decide_eq_true dg_; have q340 : (ji22) < (l0_3.length : Int) := of_decide_eq_true dg_; obtain ⟨ad340, e340, hx340_0⟩ := Kd.at_int HR0_3.out (ji22) p340 q340; cases e340; replace hx340_0 := (HB.out.cell (World.block_lt_of_cell? w _ hx340_0)).trans hx340_0; replace p340 := eq_true p340; replace q340 := eq_true q340)))
         go_ret
         exact ⟨by first | rfl | (simp [errW_none, errW_some] <;> rfl) | (simp only [← hji4, ← hji22]; first | rfl | (simp [errW_none, errW_some] <;> rfl)) | (simp [*, errW_none, errW_some] <;> rfl), bb_ HB.out⟩
        ·rw [if_neg c24] at H
         exact absurd H (by simp)
       ·rw [if_neg c23] at H
        exact absurd H (by simp)
     ·replace c12 := Bool.eq_false_iff.mpr c12
      subst c12
      rw [if_neg (show ¬ (false = true) by decide)] at H
      have H' := Aside0.mk H
      clear H
      go_enter Try.func68, Try.ntmps68
      go_wp2_with (first | ((with_reducible refine gate_dst (N := 3) rfl ?_); refine box_event ?hg (N := 3) ?hd (cs := #[.int .i64 a0_0, .int .i64 a0_1, .slice A0_2 l0_2.length c0_2, .slice A0_3 l0_3.length c0_3, .slice A0_4 l0_4.length c0_4, .slice A0_5 l0_5.length c0_5, .slice A0_6 l0_6.length c0_6, .slice A0_7 l0_7.length c0_7, .slice A0_8 l0_8.length c0_8, .slice A0_9 l0_9.length c0_9, .int .i64 a0_10]) (t := 44) ?hr ?_; (case hd => rfl); (case hg => rfl); (case hr => first | (go_simp; done) | (go_simp; rfl)); intro gb333 hg w29 hbox hb; have BK333 := Aside0.mk (hbox); have GW333 := Aside0.mk ((by rw [hg]; exact (bz_ HB.out) : w.heap.size ≤ gb333)); have GE333 := Aside0.mk ((by rw [hg]; exact (bz_ HB.out) : w.heap.size ≤ gb333)); replace HB := Aside0.mk (bs_ HB.out hb); clear hb hbox hg; obtain ⟨hcz30_0, hcz30_1, hcz30_2, hcz30_3, hcz30_4, hcz30_5, hcz30_6, hcz30_7, hcz30_8, hcz30_9, hcz30_10, hfz30_0, hfz30_1, hfz30_2, hfz30_3, hfz30_4, hfz30_5, hfz30_6, hfz30_7, hfz30_8, hfz30_9, hfz30_10⟩ := cz11_ BK333.out; have p334 : 0 ≤ ((ji4) : Int) := of_decide_eq_true dg_; have q334 : (ji4) < (l0_5.length : Int) := of_decide_eq_true dg_; obtain ⟨ad334, A334_0, c334_0, e334, hx334_0, hl334_0, hi334_0⟩ := at_L5 HR0_5.out (ji4) p334 q334; cases e334; replace hx334_0 := (HB.out.cell (World.block_lt_of_cell? w _ hx334_0)).trans hx334_0; have HR334_0 := Aside0.mk hi334_0; have HC334_0 := Aside0.mk hl334_0; clear hi334_0 hl334_0; replace p334 := eq_true p334; replace q334 := eq_true q334; have p335 : 0 ≤ (0 : Int) := (by omega); have q335 : 0 < ((rd_L5 l0_5 (ji4)).length : Int) := of_decide_eq_true dg_; obtain ⟨ad335, e335, hx335_0, hx335_1, hx335_2, hx335_3, hx335_4⟩ := at_T97 HR334_0.out 0 p335 q335; (try rw [← Nbq11.out] at hx335_3); (try rw [← Nbq11.out] at hx335_4); cases e335; have qi335 : (0 < (rd_L5 l0_5 (ji4)).length) = True := eq_true (by omega); (try rw [show ((0 : Int)).toNat = 0 from rfl] at hx335_0); (try rw [show 0 * 5 = 0 from rfl] at hx335_0); (try rw [Addr.add_zero'] at hx335_0); (try rw [show ((0 : Int)).toNat = 0 from rfl] at hx335_1); (try rw [show 0 * 5 = 0 from rfl] at hx335_1); (try rw [Addr.add_zero'] at hx335_1); (try rw [show ((0 : Int)).toNat = 0 from rfl] at hx335_2); (try rw [show 0 * 5 = 0 from rfl] at hx335_2); (try rw [Addr.add_zero'] at hx335_2); (try rw [show ((0 : Int)).toNat = 0 from rfl] at hx335_3); (try rw [show 0 * 5 = 0 from rfl] at hx335_3); (try rw [Addr.add_zero'] at hx335_3); (try rw [show ((0 : Int)).toNat = 0 from rfl] at hx335_4); (try rw [show 0 * 5 = 0 from rfl] at hx335_4); (try rw [Addr.add_zero'] at hx335_4); replace hx335_0 := (HB.out.cell (World.block_lt_of_cell? w _ hx335_0)).trans hx335_0; replace hx335_1 := (HB.out.cell (World.block_lt_of_cell? w _ hx335_1)).trans hx335_1; replace hx335_2 := (HB.out.cell (World.block_lt_of_cell? w _ hx335_2)).trans hx335_2; replace hx335_3 := (HB.out.cell (World.block_lt_of_cell? w _ hx335_3)).trans hx335_3; replace hx335_4 := (HB.out.cell (World.block_lt_of_cell? w _ hx335_4)).trans hx335_4; replace p335 := eq_true p335; replace q335 := eq_true q335))
      repeat (go_quiet (first | ((with_reducible refine gate_dst (N := 3) rfl ?_); refine box_event ?hg (N := 3) ?hd (cs := #[.int .i64 a0_0, .int .i64 a0_1, .slice A0_2 l0_2.length c0_2, .slice A0_3 l0_3.length c0_3, .slice A0_4 l0_4.length c0_4, .slice A0_5 l0_5.length c0_5, .slice A0_6 l0_6.length c0_6, .slice A0_7 l0_7.length c0_7, .slice A0_8 l0_8.length c0_8, .slice A0_9 l0_9.length c0_9, .int .i64 a0_10]) (t := 44) ?hr ?_; (case hd => rfl); (case hg => rfl); (case hr => first | (go_simp; done) | (go_simp; rfl)); intro gb333 hg w29 hbox hb; have BK333 := Aside0.mk (hbox); have GW333 := Aside0.mk ((by rw [hg]; exact (bz_ HB.out) : w.heap.size ≤ gb333)); have GE333 := Aside0.mk ((by rw [hg]; exact (bz_ HB.out) : w.heap.size ≤ gb333)); replace HB := Aside0.mk (bs_ HB.out hb); clear hb hbox hg; obtain ⟨hcz30_0, hcz30_1, hcz30_2, hcz30_3, hcz30_4, hcz30_5, hcz30_6, hcz30_7, hcz30_8, hcz30_9, hcz30_10, hfz30_0, hfz30_1, hfz30_2, hfz30_3, hfz30_4, hfz30_5, hfz30_6, hfz30_7, hfz30_8, hfz30_9, hfz30_10⟩ := cz11_ BK333.out; have p334 : 0 ≤ ((ji4) : Int) := of_decide_eq_true dg_; have q334 : (ji4) < (l0_5.length : Int) := of_decide_eq_true dg_; obtain ⟨ad334, A334_0, c334_0, e334, hx334_0, hl334_0, hi334_0⟩ := at_L5 HR0_5.out (ji4) p334 q334; cases e334; replace hx334_0 := (HB.out.cell (World.block_lt_of_cell? w _ hx334_0)).trans hx334_0; have HR334_0 := Aside0.mk hi334_0; have HC334_0 := Aside0.mk hl334_0; clear hi334_0 hl334_0; replace p334 := eq_true p334; replace q334 := eq_true q334; have p335 : 0 ≤ (0 : Int) := (by omega); have q335 : 0 < ((rd_L5 l0_5 (ji4)).length : Int) := of_decide_eq_true dg_; obtain ⟨ad335, e335, hx335_0, hx335_1, hx335_2, hx335_3, hx335_4⟩ := at_T97 HR334_0.out 0 p335 q335; (try rw [← Nbq11.out] at hx335_3); (try rw [← Nbq11.out] at hx335_4); cases e335; have qi335 : (0 < (rd_L5 l0_5 (ji4)).length) = True := eq_true (by omega); (try rw [show ((0 : Int)).toNat = 0 from rfl] at hx335_0); (try rw [show 0 * 5 = 0 from rfl] at hx335_0); (try rw [Addr.add_zero'] at hx335_0); (try rw [show ((0 : Int)).toNat = 0 from rfl] at hx335_1); (try rw [show 0 * 5 = 0 from rfl] at hx335_1); (try rw [Addr.add_zero'] at hx335_1); (try rw [show ((0 : Int)).toNat = 0 from rfl] at hx335_2); (try rw [show 0 * 5 = 0 from rfl] at hx335_2); (try rw [Addr.add_zero'] at hx335_2); (try rw [show ((0 : Int)).toNat = 0 from rfl] at hx335_3); (try rw [show 0 * 5 = 0 from rfl] at hx335_3); (try rw [Addr.add_zero'] at hx335_3); (try rw [show ((0 : Int)).toNat = 0 from rfl] at hx335_4); (try rw [show 0 * 5 = 0 from rfl] at hx335_4); (try rw [Addr.add_zero'] at hx335_4); replace hx335_0 := (HB.out.cell (World.block_lt_of_cell? w _ hx335_0)).trans hx335_0; replace hx335_1 := (HB.out.cell (World.block_lt_of_cell? w _ hx335_1)).trans hx335_1; replace hx335_2 := (HB.out.cell (World.block_lt_of_cell? w _ hx335_2)).trans hx335_2; replace hx335_3 := (HB.out.cell (World.block_lt_of_cell? w _ hx335_3)).trans hx335_3; replace hx335_4 := (HB.out.cell (World.block_lt_of_cell? w _ hx335_4)).trans hx335_4; replace p335 := eq_true p335; replace q335 := eq_true q335)); try go_wp2_with (first | ((with_reducible refine gate_dst (N := 3) rfl ?_); refine box_event ?hg (N := 3) ?hd (cs := #[.int .i64 a0_0, .int .i64 a0_1, .slice A0_2 l0_2.length c0_2, .slice A0_3 l0_3.length c0_3, .slice A0_4 l0_4.length c0_4, .slice A0_5 l0_5.length c0_5, .slice A0_6 l0_6.length c0_6, .slice A0_7 l0_7.length c0_7, .slice A0_8 l0_8.length c0_8, .slice A0_9 l0_9.length c0_9, .int .i64 a0_10]) (t := 44) ?hr ?_; (case hd => rfl); (case hg => rfl); (case hr => first | (go_simp; done) | (go_simp; rfl)); intro gb333 hg w29 hbox hb; have BK333 := Aside0.mk (hbox); have GW333 := Aside0.mk ((by rw [hg]; exact (bz_ HB.out) : w.heap.size ≤ gb333)); have GE333 := Aside0.mk ((by rw [hg]; exact (bz_ HB.out) : w.heap.size ≤ gb333)); replace HB := Aside0.mk (bs_ HB.out hb); clear hb hbox hg; obtain ⟨hcz30_0, hcz30_1, hcz30_2, hcz30_3, hcz30_4, hcz30_5, hcz30_6, hcz30_7, hcz30_8, hcz30_9, hcz30_10, hfz30_0, hfz30_1, hfz30_2, hfz30_3, hfz30_4, hfz30_5, hfz30_6, hfz30_7, hfz30_8, hfz30_9, hfz30_10⟩ := cz11_ BK333.out; have p334 : 0 ≤ ((ji4) : Int) := of_decide_eq_true dg_; have q334 : (ji4) < (l0_5.length : Int) := of_decide_eq_true dg_; obtain ⟨ad334, A334_0, c334_0, e334, hx334_0, hl334_0, hi334_0⟩ := at_L5 HR0_5.out (ji4) p334 q334; cases e334; replace hx334_0 := (HB.out.cell (World.block_lt_of_cell? w _ hx334_0)).trans hx334_0; have HR334_0 := Aside0.mk hi334_0; have HC334_0 := Aside0.mk hl334_0; clear hi334_0 hl334_0; replace p334 := eq_true p334; replace q334 := eq_true q334; have p335 : 0 ≤ (0 : Int) := (by omega); have q335 : 0 < ((rd_L5 l0_5 (ji4)).length : Int) := of_decide_eq_true dg_; obtain ⟨ad335, e335, hx335_0, hx335_1, hx335_2, hx335_3, hx335_4⟩ := at_T97 HR334_0.out 0 p335 q335; (try rw [← Nbq11.out] at hx335_3); (try rw [← Nbq11.out] at hx335_4); cases e335; have qi335 : (0 < (rd_L5 l0_5 (ji4)).length) = True := eq_true (by omega); (try rw [show ((0 : Int)).toNat = 0 from rfl] at hx335_0); (try rw [show 0 * 5 = 0 from rfl] at hx335_0); (try rw [Addr.add_zero'] at hx335_0); (try rw [show ((0 : Int)).toNat = 0 from rfl] at hx335_1); (try rw [show 0 * 5 = 0 from rfl] at hx335_1); (try rw [Addr.add_zero'] at hx335_1); (try rw [show ((0 : Int)).toNat = 0 from rfl] at hx335_2); (try rw [show 0 * 5 = 0 from rfl] at hx335_2); (try rw [Addr.add_zero'] at hx335_2); (try rw [show ((0 : Int)).toNat = 0 from rfl] at hx335_3); (try rw [show 0 * 5 = 0 from rfl] at hx335_3); (try rw [Addr.add_zero'] at hx335_3); (try rw [show ((0 : Int)).toNat = 0 from rfl] at hx335_4); (try rw [show 0 * 5 = 0 from rfl] at hx335_4); (try rw [Addr.add_zero'] at hx335_4); replace hx335_0 := (HB.out.cell (World.block_lt_of_cell? w _ hx335_0)).trans hx335_0; replace hx335_1 := (HB.out.cell (World.block_lt_of_cell? w _ hx335_1)).trans hx335_1; replace hx335_2 := (HB.out.cell (World.block_lt_of_cell? w _ hx335_2)).trans hx335_2; replace hx335_3 := (HB.out.cell (World.block_lt_of_cell? w _ hx335_3)).trans hx335_3; replace hx335_4 := (HB.out.cell (World.block_lt_of_cell? w _ hx335_4)).trans hx335_4; replace p335 := eq_true p335; replace q335 := eq_true q335)))
      go_loopg [10] k (fun kq v10 w' => ∃ (x10_1 : Int), v10 = .int .i64 x10_1 ∧ Aside0 (spec_l17Wanted.l0 kq a1 a2 (Int.tmod a2 2) x10_1 a0_0 a0_1 l0_2 l0_3 l0_4 l0_5 l0_6 l0_7 l0_8 l0_9 a0_10 = some r) ∧ Aside0 (kq ≤ k) ∧ Aside0 (w'.heap[gb333]? = some (.cells #[.int .i64 a0_0, .int .i64 a0_1, (.slice A0_2 l0_2.length c0_2), (.slice A0_3 l0_3.length c0_3), (.slice A0_4 l0_4.length c0_4), (.slice (some ad334) l0_5.length c0_5), (.slice A0_6 l0_6.length c0_6), (.slice A0_7 l0_7.length c0_7), (.slice A0_8 l0_8.length c0_8), (.slice A0_9 l0_9.length c0_9), .int .i64 a0_10] 44 (0, 0))) ∧ Aside0 (Below w.heap.size w w'))
      case atStart => exact ⟨(0), ef_, H', ⟨Nat.le_refl _⟩, ⟨bq_ BK333.out⟩, ⟨bb_ HB.out⟩⟩
      case round =>
       clear H'
       try clear c5
       try clear c5b0
       try clear c6
       try clear c6b0
       try clear c7
       try clear c7b0
       try clear c7b1
       try clear c7b2
       try clear c10
       try clear c10b0
       try clear c10b1
       try clear c12
       try clear hcz30_0 hcz30_1 hcz30_10 hcz30_2 hcz30_3 hcz30_4 hcz30_5 hcz30_6 hcz30_7 hcz30_8 hcz30_9 hfz30_0 hfz30_1 hfz30_10 hfz30_2 hfz30_3 hfz30_4 hfz30_5 hfz30_6 hfz30_7 hfz30_8 hfz30_9
       try clear hx334_0
       try clear hx335_0
       try clear hx335_1
       try clear hx335_2
       try clear hx335_3
       try clear hx335_4
       try clear p334
       try clear p335
       try clear q334
       try clear q335
       obtain ⟨x10_1, rfl, HA, HK1, BK333, HB⟩ := hrel
       cases gk with
       | zero => exact absurd HA.out (by simp [spec_l17Wanted.l0])
       | succ k1 =>
        have H := HA.out
        clear HA
        simp only [spec_l17Wanted.l0] at H
        by_cases c31 : x10_1 ≤ 4
        ·rw [if_pos c31] at H
         have c31b0 : decide (x10_1 ≤ 4) = true := decide_eq_true c31
         clear c31
         obtain ⟨ji32, hji32⟩ : ∃ j_ : Int, (wrap64 ((wrap64 ((wrap64 (10 * a1)) + (wrap64 (2 * x10_1)))) + (Int.tmod a2 2))) = j_ := ⟨_, rfl⟩
         replace H : (if 0 ≤ (ji32) then (if (ji32) < (l0_6.length : Int) then (if (rd l0_6 (ji32)) = (wrap64 (Int.tdiv a2 2)) then (some x10_1) else (spec_l17Wanted.l0 k1 a1 a2 (Int.tmod a2 2) (wrap64 (x10_1 + 1)) a0_0 a0_1 l0_2 l0_3 l0_4 l0_5 l0_6 l0_7 l0_8 l0_9 a0_10)) else (none)) else (none)) = some r := by first | (rw [hji32] at H; exact H) | (simp only [hji32] at H ⊢; exact H)
         have hji32w : (IntKind.i64.wrap ((wrap64 ((wrap64 (10 * a1)) + (wrap64 (2 * x10_1)))) + (Int.tmod a2 2))) = ji32 := (i64_w _).trans hji32
         by_cases c33 : 0 ≤ (ji32)
         ·rw [if_pos c33] at H
          have c33b0 : decide (0 ≤ (ji32)) = true := decide_eq_true c33
          clear c33
          by_cases c34 : (ji32) < (l0_6.length : Int)
          ·rw [if_pos c34] at H
           have c34b0 : decide ((ji32) < (l0_6.length : Int)) = true := decide_eq_true c34
           clear c34
           by_cases c35 : (rd l0_6 (ji32)) = (wrap64 (Int.tdiv a2 2))
           ·rw [if_pos c35] at H
            have c35b0 : ((rd l0_6 (ji32)) == (wrap64 (Int.tdiv a2 2))) = true := beq_iff_eq.mpr c35
            have c35b1 : ((rd l0_6 (ji32)) != (wrap64 (Int.tdiv a2 2))) = false := bne_eq_false_iff_eq.mpr c35
            clear c35
            obtain rfl := Option.some.inj H
            obtain ⟨hcz36_0, hcz36_1, hcz36_2, hcz36_3, hcz36_4, hcz36_5, hcz36_6, hcz36_7, hcz36_8, hcz36_9, hcz36_10, hfz36_0, hfz36_1, hfz36_2, hfz36_3, hfz36_4, hfz36_5, hfz36_6, hfz36_7, hfz36_8, hfz36_9, hfz36_10⟩ := cz11_ BK333.out
            have p341 : 0 ≤ ((ji32) : Int) := of_decide_eq_true dg_
            have q341 : (ji32) < (l0_6.length : Int) := of_decide_eq_true dg_
            obtain ⟨ad341, e341, hx341_0⟩ := Kd.at_int HR0_6.out (ji32) p341 q341
            cases e341
            replace hx341_0 := (HB.out.cell (World.block_lt_of_cell? w _ hx341_0)).trans hx341_0
            replace p341 := eq_true p341
            replace q341 := eq_true q341
            go_wp2
            repeat (go_quiet (fail); try go_wp2)
            go_ret
            exact ⟨by first | rfl | (simp [errW_none, errW_some] <;> rfl) | (simp only [← hji4, ← hji32]; first | rfl | (simp [errW_none, errW_some] <;> rfl)) | (simp [*, errW_none, errW_some] <;> rfl), bb_ HB.out⟩
           ·rw [if_neg c35] at H
            have c35b0 : ((rd l0_6 (ji32)) == (wrap64 (Int.tdiv a2 2))) = false := beq_eq_false_iff_ne.mpr c35
            have c35b1 : ((rd l0_6 (ji32)) != (wrap64 (Int.tdiv a2 2))) = true := bne_iff_ne.mpr c35
            have H' := Aside0.mk H
            clear H
            obtain ⟨hcz37_0, hcz37_1, hcz37_2, hcz37_3, hcz37_4, hcz37_5, hcz37_6, hcz37_7, hcz37_8, hcz37_9, hcz37_10, hfz37_0, hfz37_1, hfz37_2, hfz37_3, hfz37_4, hfz37_5, hfz37_6, hfz37_7, hfz37_8, hfz37_9, hfz37_10⟩ := cz11_ BK333.out
            have p341 : 0 ≤ ((ji32) : Int) := of_decide_eq_true dg_
            have q341 : (ji32) < (l0_6.length : Int) := of_decide_eq_true dg_
            obtain ⟨ad341, e341, hx341_0⟩ := Kd.at_int HR0_6.out (ji32) p341 q341
            cases e341
            replace hx341_0 := (HB.out.cell (World.block_lt_of_cell? w _ hx341_0)).trans hx341_0
            replace p341 := eq_true p341
            replace q341 := eq_true q341
            go_wp2
            repeat (go_quiet (fail); try go_wp2)
            go_roundg k1
            case measure => have := HK1.out; omega
            case rel => exact ⟨(wrap64 (x10_1 + 1)), ef_, H', ⟨by have := HK1.out; omega⟩, ⟨bq_ BK333.out⟩, ⟨bb_ HB.out⟩⟩
          ·rw [if_neg c34] at H
           exact absurd H (by simp)
         ·rw [if_neg c33] at H
          exact absurd H (by simp)
        ·rw [if_neg c31] at H
         have c31b0 : decide (x10_1 ≤ 4) = false := decide_eq_false c31
         clear c31
         obtain rfl := Option.some.inj H
         go_wp2
         repeat (go_quiet (fail); try go_wp2)
         go_ret
         exact ⟨by first | rfl | (simp [errW_none, errW_some] <;> rfl) | (simp only [← hji4]; first | rfl | (simp [errW_none, errW_some] <;> rfl)) | (simp [*, errW_none, errW_some] <;> rfl), bb_ HB.out⟩
    ·rw [if_neg c10] at H
     exact absurd H (by simp)
  ·rw [if_neg c6] at H
   exact absurd H (by simp)
 ·rw [if_neg c5] at H
  exact absurd H (by simp)

end Go.Proofs.Ythmfjdanmbcgbaa.PFnExactIsRequest
-- thin
