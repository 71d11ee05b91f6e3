/- Each function that the law comes to, as a plain function, with the proof that the call in the model gives what that function says (written by a program of this session out of the translation). No condition. -/
import Derived.Test.YthmfjdanmbcgbaaPFnExactIsRequestx0
import Derived.Test.YthmfjdanmbcgbaaPFnExactIsRequestx10
import Derived.Test.YthmfjdanmbcgbaaPFnExactIsRequestx11
import Derived.Test.YthmfjdanmbcgbaaPFnExactIsRequestx14
namespace Go.Proofs.Ythmfjdanmbcgbaa.PFnExactIsRequest
open Go.RowKit Go.Proofs.YthmfjdanmbcgbaaW.PrintWords Go.Proofs.YthmfjdanmbcgbaaW.PrintLast Go.Proofs.YthmfjdanmbcgbaaW.PrintMore
attribute [local go_sem] max2_int min2_int max_two min_two max_three min_three max_four min_four   -- for this text's walks alone
set_option linter.unusedVariables false
set_option linter.unusedSimpArgs false

/-! ### impl_isPlace: function 65 -/
def impl_isPlace.f (k : Nat) (a0_0 : Int) (a0_1 : Int) (l0_2 : List Int) (l0_3 : List Int) (l0_4 : List Int) (l0_5 : List (List (S97))) (l0_6 : List Int) (l0_7 : List Int) (l0_8 : List (List (S97))) (l0_9 : List (List (S97))) (a0_10 : Int) (a1 : Int) : Option (Bool) := (impl_NetOk.f k a0_0 a0_1 l0_2 l0_3 l0_4 l0_5 l0_6 l0_7 l0_8 l0_9 a0_10).bind fun t444 => (if t444 = true then ((impl_isNode.f a0_0 a0_1 a1).bind fun t445 => (some t445)) else (some false))
theorem impl_isPlace.mono : ∀ a0 a1 a2 a3 a4 a5 a6 a7 a8 a9 a10 a11 k, LeO (impl_isPlace.f k a0 a1 a2 a3 a4 a5 a6 a7 a8 a9 a10 a11) (impl_isPlace.f (k + 1) a0 a1 a2 a3 a4 a5 a6 a7 a8 a9 a10 a11) := by
 intro a0 a1 a2 a3 a4 a5 a6 a7 a8 a9 a10 a11 k
 unfold impl_isPlace.f
 repeat' first
   | (with_reducible exact impl_NetOk.mono _ _ _ _ _ _ _ _ _ _ _ _)
   | (with_reducible exact LeO.refl _)
   | (with_reducible exact LeO.none _)
   | (with_reducible refine LeO.ite ?_ ?_)
   | (with_reducible refine LeO.bind ?_ (fun _ => ?_))
   | exact impl_NetOk.mono _ _ _ _ _ _ _ _ _ _ _ _
   | exact LeO.none _
   | refine LeO.ite ?_ ?_
   | refine LeO.bind ?_ (fun _ => ?_)
theorem impl_isPlace.e0 {P : Prop} (h : P := by
 go_enter Try.func65, Try.ntmps65
 go_wp2_with (first | ((with_reducible refine gate_dst (N := 2) rfl ?_); refine box_event ?hg (N := 2) ?hd (cs := #[.int .i64 a0_0, .int .i64 a0_1, .slice A0_2 l0_2.length c0_2, .slice A0_3 l0_3.length c0_3, .slice A0_4 l0_4.length c0_4, .slice A0_5 l0_5.length c0_5, .slice A0_6 l0_6.length c0_6, .slice A0_7 l0_7.length c0_7, .slice A0_8 l0_8.length c0_8, .slice A0_9 l0_9.length c0_9, .int .i64 a0_10]) (t := 44) ?hr ?_; (case hd => rfl); (case hg => rfl); (case hr => first | (go_simp; done) | (go_simp; rfl)); intro gb443 hg w_0 hbox hb; have BK443 := Aside0.mk (hbox); have GW443 := Aside0.mk ((by rw [hg]; exact (bz_ HB.out) : w.heap.size ≤ gb443)); have GE443 := Aside0.mk ((by rw [hg]; exact (bz_ HB.out) : w.heap.size ≤ gb443)); replace HB := Aside0.mk (bs_ HB.out hb); clear hb hbox hg; obtain ⟨hcz_0, hcz_1, hcz_2, hcz_3, hcz_4, hcz_5, hcz_6, hcz_7, hcz_8, hcz_9, hcz_10, hfz_0, hfz_1, hfz_2, hfz_3, hfz_4, hfz_5, hfz_6, hfz_7, hfz_8, hfz_9, hfz_10⟩ := cz11_ BK443.out) | ((with_reducible refine gate_callee (f := 57) rfl ?_); refine gm_ (some 6) Try.func57 #[.agg #[.int .i64 a0_0, .int .i64 a0_1, .slice A0_2 l0_2.length c0_2, .slice A0_3 l0_3.length c0_3, .slice A0_4 l0_4.length c0_4, .slice A0_5 l0_5.length c0_5, .slice A0_6 l0_6.length c0_6, .slice A0_7 l0_7.length c0_7, .slice A0_8 l0_8.length c0_8, .slice A0_9 l0_9.length c0_9, .int .i64 a0_10]] rfl ?_; (with_reducible refine (impl_NetOk.calls k a0_0 a0_1 _ _ l0_2 _ _ l0_3 _ _ l0_4 _ _ l0_5 _ _ l0_6 _ _ l0_7 _ _ l0_8 _ _ l0_9 a0_10 _ _ ?side1 HC0_2.out ?side3 HC0_3.out ?side5 HC0_4.out ?side7 HC0_5.out ?side9 HC0_6.out ?side11 HC0_7.out ?side13 HC0_8.out ?side15 HC0_9.out A3.out).mono ?_); (case side1 => exact cb_ HR0_2.out HB.out); (case side3 => exact cb_ HR0_3.out HB.out); (case side5 => exact cb_ HR0_4.out HB.out); (case side7 => exact cb_ HR0_5.out HB.out); (case side9 => exact cb_ HR0_6.out HB.out); (case side11 => exact cb_ HR0_7.out HB.out); (case side13 => exact cb_ HR0_8.out HB.out); (case side15 => exact cb_ HR0_9.out HB.out); rintro e w_0 ⟨rfl, hb⟩; refine ⟨_, rfl, ?_⟩; replace BK443 := Aside0.mk (bk_ BK443.out hb); replace HB := Aside0.mk (bs_ HB.out hb); (try clear hb); obtain ⟨hcz_0, hcz_1, hcz_2, hcz_3, hcz_4, hcz_5, hcz_6, hcz_7, hcz_8, hcz_9, hcz_10, hfz_0, hfz_1, hfz_2, hfz_3, hfz_4, hfz_5, hfz_6, hfz_7, hfz_8, hfz_9, hfz_10⟩ := cz11_ BK443.out) | (go_at_call 105; (with_reducible refine (impl_isNode.calls a0_0 a0_1 a1 t445 _ A5.out).mono ?_); rintro e w_0 ⟨rfl, hb⟩; replace BK443 := Aside0.mk (bk_ BK443.out hb); replace HB := Aside0.mk (bs_ HB.out hb); (try clear hb)))
 go_ret
 exact ⟨fin_, bb_ HB.out⟩) : P := h
set_option maxHeartbeats 8000000 in
set_option maxRecDepth 100000 in
theorem impl_isPlace.calls (k : Nat) (a0_0 : Int) (a0_1 : Int) (A0_2 : Option Addr) (c0_2 : Nat) (l0_2 : List Int) (A0_3 : Option Addr) (c0_3 : Nat) (l0_3 : List Int) (A0_4 : Option Addr) (c0_4 : Nat) (l0_4 : List Int) (A0_5 : Option Addr) (c0_5 : Nat) (l0_5 : List (List (S97))) (A0_6 : Option Addr) (c0_6 : Nat) (l0_6 : List Int) (A0_7 : Option Addr) (c0_7 : Nat) (l0_7 : List Int) (A0_8 : Option Addr) (c0_8 : Nat) (l0_8 : List (List (S97))) (A0_9 : Option Addr) (c0_9 : Nat) (l0_9 : List (List (S97))) (a0_10 : Int) (a1 : Int) (r : Bool) (w : World) (hr0_2 : Kd.C (Kd.int .i64) w A0_2 l0_2.length l0_2) (hc0_2 : l0_2.length ≤ c0_2) (hr0_3 : Kd.C (Kd.int .i64) w A0_3 l0_3.length l0_3) (hc0_3 : l0_3.length ≤ c0_3) (hr0_4 : Kd.C (Kd.int .i64) w A0_4 l0_4.length l0_4) (hc0_4 : l0_4.length ≤ c0_4) (hr0_5 : Kd.C (Kd.slice 97 k97) w A0_5 l0_5.length l0_5) (hc0_5 : l0_5.length ≤ c0_5) (hr0_6 : Kd.C (Kd.int .i64) w A0_6 l0_6.length l0_6) (hc0_6 : l0_6.length ≤ c0_6) (hr0_7 : Kd.C (Kd.int .i64) w A0_7 l0_7.length l0_7) (hc0_7 : l0_7.length ≤ c0_7) (hr0_8 : Kd.C (Kd.slice 97 k97) w A0_8 l0_8.length l0_8) (hc0_8 : l0_8.length ≤ c0_8) (hr0_9 : Kd.C (Kd.slice 97 k97) w A0_9 l0_9.length l0_9) (hc0_9 : l0_9.length ≤ c0_9) (h : impl_isPlace.f k a0_0 a0_1 l0_2 l0_3 l0_4 l0_5 l0_6 l0_7 l0_8 l0_9 a0_10 a1 = some r) :
  Calls Try.prog 65 #[.agg #[.int .i64 a0_0, .int .i64 a0_1, .slice A0_2 l0_2.length c0_2, .slice A0_3 l0_3.length c0_3, .slice A0_4 l0_4.length c0_4, .slice A0_5 l0_5.length c0_5, .slice A0_6 l0_6.length c0_6, .slice A0_7 l0_7.length c0_7, .slice A0_8 l0_8.length c0_8, .slice A0_9 l0_9.length c0_9, .int .i64 a0_10], .int .i64 a1] w fun e w' => e = .returned (.bool r) ∧ Below w.heap.size w w' := by
 have hu44 := Try.underlying44
 have hu36 := Try.underlying36
 have HR0_2 := Aside0.mk hr0_2
 have HC0_2 := Aside0.mk hc0_2
 clear hr0_2 hc0_2
 have HR0_3 := Aside0.mk hr0_3
 have HC0_3 := Aside0.mk hc0_3
 clear hr0_3 hc0_3
 have HR0_4 := Aside0.mk hr0_4
 have HC0_4 := Aside0.mk hc0_4
 clear hr0_4 hc0_4
 have HR0_5 := Aside0.mk hr0_5
 have HC0_5 := Aside0.mk hc0_5
 clear hr0_5 hc0_5
 have HR0_6 := Aside0.mk hr0_6
 have HC0_6 := Aside0.mk hc0_6
 clear hr0_6 hc0_6
 have HR0_7 := Aside0.mk hr0_7
 have HC0_7 := Aside0.mk hc0_7
 clear hr0_7 hc0_7
 have HR0_8 := Aside0.mk hr0_8
 have HC0_8 := Aside0.mk hc0_8
 clear hr0_8 hc0_8
 have HR0_9 := Aside0.mk hr0_9
 have HC0_9 := Aside0.mk hc0_9
 clear hr0_9 hc0_9
 have HB := Aside0.mk (Below.refl w.heap.size w)
 have H : ((impl_NetOk.f k a0_0 a0_1 l0_2 l0_3 l0_4 l0_5 l0_6 l0_7 l0_8 l0_9 a0_10).bind fun t444 => (if t444 = true then ((impl_isNode.f a0_0 a0_1 a1).bind fun t445 => (some t445)) else (some false))) = some r := h
 clear h
 replace H := Option.bind_eq_some_iff.mp H
 obtain ⟨t444, A30, H⟩ := H
 try dsimp only at H
 have A3 := Aside0.mk A30
 clear A30
 by_cases c4 : t444 = true
 ·subst c4
  rw [if_pos rfl] at H
  replace H := Option.bind_eq_some_iff.mp H
  obtain ⟨t445, A50, H⟩ := H
  try dsimp only at H
  have A5 := Aside0.mk A50
  clear A50
  obtain rfl := Option.some.inj H
  exact impl_isPlace.e0
 ·replace c4 := Bool.eq_false_iff.mpr c4
  subst c4
  rw [if_neg (show ¬ (false = true) by decide)] at H
  obtain rfl := Option.some.inj H
  exact impl_isPlace.e0

/-! ### impl_BufferAt: function 109 -/
def impl_BufferAt.f (a0 : Int) (a1 : Int) (a2 : Int) : Option (Int) := (impl_inside.f a0 0 15).bind fun t446 => (if t446 = true then ((impl_inside.f a1 0 4).bind fun t447 => (if t447 = true then ((impl_inside.f a2 0 1).bind fun t448 => (if t448 = true then (some (wrap64 ((wrap64 ((wrap64 ((wrap64 (5 * a0)) + a1)) * 2)) + a2))) else (some (-1)))) else (some (-1)))) else (some (-1)))
theorem impl_BufferAt.e0 {P : Prop} (h : P := by
 go_enter Try.func109, Try.ntmps109
 go_wp2_with (first | ((with_reducible refine gate_callee (f := 66) rfl ?_); refine gm_ (some 8) Try.func66 #[.int .i64 a0, .int .i64 0, .int .i64 15] rfl ?_; (with_reducible refine (impl_inside.calls a0 0 15 _ _ A4.out).mono ?_); rintro e w' ⟨rfl, ⟨nd, rfl⟩⟩; refine ⟨_, rfl, ?_⟩) | (go_at_call 66; (with_reducible refine (impl_inside.calls a1 0 4 _ _ A6.out).mono ?_); rintro e w' ⟨rfl, ⟨nd, rfl⟩⟩) | (go_at_call 66; (with_reducible refine (impl_inside.calls a2 0 1 _ _ A8.out).mono ?_); rintro e w' ⟨rfl, ⟨nd, rfl⟩⟩))
 go_ret
 exact ⟨by first | rfl | (simp; done) | (simp [*]; done), by repeat (first | exact Drawn0.refl _ | apply Drawn0.step)⟩) : P := h
set_option maxHeartbeats 8000000 in
set_option maxRecDepth 100000 in
theorem impl_BufferAt.calls (a0 : Int) (a1 : Int) (a2 : Int) (r : Int) (w : World) (h : impl_BufferAt.f a0 a1 a2 = some r) :
  Calls Try.prog 109 #[.int .i64 a0, .int .i64 a1, .int .i64 a2] w fun e w' => e = .returned (.int .i64 r) ∧ Drawn0 w w' := by
 have H : ((impl_inside.f a0 0 15).bind fun t446 => (if t446 = true then ((impl_inside.f a1 0 4).bind fun t447 => (if t447 = true then ((impl_inside.f a2 0 1).bind fun t448 => (if t448 = true then (some (wrap64 ((wrap64 ((wrap64 ((wrap64 (5 * a0)) + a1)) * 2)) + a2))) else (some (-1)))) else (some (-1)))) else (some (-1)))) = some r := h
 clear h
 replace H := Option.bind_eq_some_iff.mp H
 obtain ⟨t446, A40, H⟩ := H
 try dsimp only at H
 have A4 := Aside0.mk A40
 clear A40
 by_cases c5 : t446 = true
 ·subst c5
  rw [if_pos rfl] at H
  replace H := Option.bind_eq_some_iff.mp H
  obtain ⟨t447, A60, H⟩ := H
  try dsimp only at H
  have A6 := Aside0.mk A60
  clear A60
  by_cases c7 : t447 = true
  ·subst c7
   rw [if_pos rfl] at H
   replace H := Option.bind_eq_some_iff.mp H
   obtain ⟨t448, A80, H⟩ := H
   try dsimp only at H
   have A8 := Aside0.mk A80
   clear A80
   by_cases c9 : t448 = true
   ·subst c9
    rw [if_pos rfl] at H
    obtain rfl := Option.some.inj H
    exact impl_BufferAt.e0
   ·replace c9 := Bool.eq_false_iff.mpr c9
    subst c9
    rw [if_neg (show ¬ (false = true) by decide)] at H
    obtain rfl := Option.some.inj H
    exact impl_BufferAt.e0
  ·replace c7 := Bool.eq_false_iff.mpr c7
   subst c7
   rw [if_neg (show ¬ (false = true) by decide)] at H
   obtain rfl := Option.some.inj H
   exact impl_BufferAt.e0
 ·replace c5 := Bool.eq_false_iff.mpr c5
  subst c5
  rw [if_neg (show ¬ (false = true) by decide)] at H
  obtain rfl := Option.some.inj H
  exact impl_BufferAt.e0

/-! ### impl_live: function 134 -/
def impl_live.f (k : Nat) (a0_0 : Int) (a0_1 : Int) (l0_2 : List Int) (a1 : Int) : Option (Bool) := (impl_leads.f a0_0 a0_1 a1).bind fun t450 => (if t450 = true then ((slices_Contains_int_int.f k l0_2 a1).bind fun t451 => (some (!t451))) else (some false))
theorem impl_live.mono : ∀ a0 a1 a2 a3 k, LeO (impl_live.f k a0 a1 a2 a3) (impl_live.f (k + 1) a0 a1 a2 a3) := by
 intro a0 a1 a2 a3 k
 unfold impl_live.f
 repeat' first
   | (with_reducible exact slices_Contains_int_int.mono _ _ _)
   | (with_reducible exact LeO.refl _)
   | (with_reducible exact LeO.none _)
   | (with_reducible refine LeO.ite ?_ ?_)
   | (with_reducible refine LeO.bind ?_ (fun _ => ?_))
   | exact slices_Contains_int_int.mono _ _ _
   | exact LeO.none _
   | refine LeO.ite ?_ ?_
   | refine LeO.bind ?_ (fun _ => ?_)
theorem impl_live.e0 {P : Prop} (h : P := by
 go_enter Try.func134, Try.ntmps134
 go_wp2_with (first | ((with_reducible refine gate_dst (N := 2) rfl ?_); refine box_event ?hg (N := 2) ?hd (cs := #[.int .i64 a0_0, .int .i64 a0_1, .slice A0_2 l0_2.length c0_2]) (t := 38) ?hr ?_; (case hd => rfl); (case hg => rfl); (case hr => first | (go_simp; done) | (go_simp; rfl)); intro gb449 hg w_0 hbox hb; have BK449 := Aside0.mk (hbox); have GW449 := Aside0.mk ((by rw [hg]; exact (bz_ HB.out) : w.heap.size ≤ gb449)); have GE449 := Aside0.mk ((by rw [hg]; exact (bz_ HB.out) : w.heap.size ≤ gb449)); replace HB := Aside0.mk (bs_ HB.out hb); clear hb hbox hg; obtain ⟨hcz_0, hcz_1, hcz_2, hfz_0, hfz_1, hfz_2⟩ := cz3_ BK449.out) | ((with_reducible refine gate_callee (f := 125) rfl ?_); refine gm_ (some 8) Try.func125 #[.agg #[.int .i64 a0_0, .int .i64 a0_1], .int .i64 a1] rfl ?_; (with_reducible refine (impl_leads.calls a0_0 a0_1 a1 _ _ A3.out).mono ?_); rintro e w_0 ⟨rfl, hb⟩; refine ⟨_, rfl, ?_⟩; replace BK449 := Aside0.mk (bk_ BK449.out hb); replace HB := Aside0.mk (bs_ HB.out hb); (try clear hb); obtain ⟨hcz_0, hcz_1, hcz_2, hfz_0, hfz_1, hfz_2⟩ := cz3_ BK449.out) | (go_at_call 126; (with_reducible refine (slices_Contains_int_int.calls k _ _ l0_2 a1 t451 _ ?side1 HC0_2.out A5.out).mono ?_); (case side1 => exact cb_ HR0_2.out HB.out); rintro e w' ⟨rfl, ⟨nd, rfl⟩⟩))
 go_ret
 exact ⟨fin_, bb_ HB.out⟩) : P := h
set_option maxHeartbeats 8000000 in
set_option maxRecDepth 100000 in
theorem impl_live.calls (k : Nat) (a0_0 : Int) (a0_1 : Int) (A0_2 : Option Addr) (c0_2 : Nat) (l0_2 : List Int) (a1 : Int) (r : Bool) (w : World) (hr0_2 : Kd.C (Kd.int .i64) w A0_2 l0_2.length l0_2) (hc0_2 : l0_2.length ≤ c0_2) (h : impl_live.f k a0_0 a0_1 l0_2 a1 = some r) :
  Calls Try.prog 134 #[.agg #[.int .i64 a0_0, .int .i64 a0_1, .slice A0_2 l0_2.length c0_2], .int .i64 a1] w fun e w' => e = .returned (.bool r) ∧ Below w.heap.size w w' := by
 have hu38 := Try.underlying38
 have hu36 := Try.underlying36
 have HR0_2 := Aside0.mk hr0_2
 have HC0_2 := Aside0.mk hc0_2
 clear hr0_2 hc0_2
 have HB := Aside0.mk (Below.refl w.heap.size w)
 have H : ((impl_leads.f a0_0 a0_1 a1).bind fun t450 => (if t450 = true then ((slices_Contains_int_int.f k l0_2 a1).bind fun t451 => (some (!t451))) else (some false))) = some r := h
 clear h
 replace H := Option.bind_eq_some_iff.mp H
 obtain ⟨t450, A30, H⟩ := H
 try dsimp only at H
 have A3 := Aside0.mk A30
 clear A30
 by_cases c4 : t450 = true
 ·subst c4
  rw [if_pos rfl] at H
  replace H := Option.bind_eq_some_iff.mp H
  obtain ⟨t451, A50, H⟩ := H
  try dsimp only at H
  have A5 := Aside0.mk A50
  clear A50
  obtain rfl := Option.some.inj H
  exact impl_live.e0
 ·replace c4 := Bool.eq_false_iff.mpr c4
  subst c4
  rw [if_neg (show ¬ (false = true) by decide)] at H
  obtain rfl := Option.some.inj H
  exact impl_live.e0

/-! ### impl_Opposite: function 136 -/
def impl_Opposite.f (a0 : Int) : Option (Int) := if a0 = 4 then (some 4) else ((impl_inside.f a0 0 3).bind fun t452 => (if t452 = true then (some (Int.tmod (wrap64 (a0 + 2)) 4)) else (some (-1))))
theorem impl_Opposite.e0 {P : Prop} (h : P := by
 go_enter Try.func136, Try.ntmps136
 go_wp2_with (first | ((with_reducible refine gate_callee (f := 66) rfl ?_); refine gm_ (some 8) Try.func66 #[.int .i64 a0, .int .i64 0, .int .i64 3] rfl ?_; (with_reducible refine (impl_inside.calls a0 0 3 _ _ A3.out).mono ?_); rintro e w' ⟨rfl, ⟨nd, rfl⟩⟩; refine ⟨_, rfl, ?_⟩))
 go_ret
 exact ⟨by first | rfl | (simp; done) | (simp [*]; done), by repeat (first | exact Drawn0.refl _ | apply Drawn0.step)⟩) : P := h
set_option maxHeartbeats 8000000 in
set_option maxRecDepth 100000 in
theorem impl_Opposite.calls (a0 : Int) (r : Int) (w : World) (h : impl_Opposite.f a0 = some r) :
  Calls Try.prog 136 #[.int .i64 a0] w fun e w' => e = .returned (.int .i64 r) ∧ Drawn0 w w' := by
 have H : (if a0 = 4 then (some 4) else ((impl_inside.f a0 0 3).bind fun t452 => (if t452 = true then (some (Int.tmod (wrap64 (a0 + 2)) 4)) else (some (-1))))) = some r := h
 clear h
 by_cases c2 : a0 = 4
 ·rw [if_pos c2] at H
  have c2b0 : (a0 == 4) = true := beq_iff_eq.mpr c2
  have c2b1 : (a0 != 4) = false := bne_eq_false_iff_eq.mpr c2
  clear c2
  obtain rfl := Option.some.inj H
  exact impl_Opposite.e0
 ·rw [if_neg c2] at H
  have c2b0 : (a0 == 4) = false := beq_eq_false_iff_ne.mpr c2
  have c2b1 : (a0 != 4) = true := bne_iff_ne.mpr c2
  replace H := Option.bind_eq_some_iff.mp H
  obtain ⟨t452, A30, H⟩ := H
  try dsimp only at H
  have A3 := Aside0.mk A30
  clear A30
  by_cases c4 : t452 = true
  ·subst c4
   rw [if_pos rfl] at H
   obtain rfl := Option.some.inj H
   exact impl_Opposite.e0
  ·replace c4 := Bool.eq_false_iff.mpr c4
   subst c4
   rw [if_neg (show ¬ (false = true) by decide)] at H
   obtain rfl := Option.some.inj H
   exact impl_Opposite.e0

/-! ### impl_Net_behind: function 106 -/
/-- A network behind a pointer, read. -/
def NetAt (W : World) (g : Nat) (s0 : Int) (s1 : Int) (s2 : List Int) (s3 : List Int) (s4 : List Int) (s5 : List (List S97)) (s6 : List Int) (s7 : List Int) (s8 : List (List S97)) (s9 : List (List S97)) (s10 : Int) : Prop := ∃ A2 c2 A3 c3 A4 c4 A5 c5 A6 c6 A7 c7 A8 c8 A9 c9, W.heap[g]? = some (.cells #[.int .i64 s0, .int .i64 s1, .slice A2 s2.length c2, .slice A3 s3.length c3, .slice A4 s4.length c4, .slice A5 s5.length c5, .slice A6 s6.length c6, .slice A7 s7.length c7, .slice A8 s8.length c8, .slice A9 s9.length c9, .int .i64 s10] 44 (0, 0)) ∧ (Kd.C (Kd.int .i64) W A2 s2.length s2 ∧ s2.length ≤ c2) ∧ (Kd.C (Kd.int .i64) W A3 s3.length s3 ∧ s3.length ≤ c3) ∧ (Kd.C (Kd.int .i64) W A4 s4.length s4 ∧ s4.length ≤ c4) ∧ (Kd.C (Kd.slice 97 k97) W A5 s5.length s5 ∧ s5.length ≤ c5) ∧ (Kd.C (Kd.int .i64) W A6 s6.length s6 ∧ s6.length ≤ c6) ∧ (Kd.C (Kd.int .i64) W A7 s7.length s7 ∧ s7.length ≤ c7) ∧ (Kd.C (Kd.slice 97 k97) W A8 s8.length s8 ∧ s8.length ≤ c8) ∧ (Kd.C (Kd.slice 97 k97) W A9 s9.length s9 ∧ s9.length ≤ c9)
theorem NetAt.below {W W1 : World} {g : Nat} {s0 : Int} {s1 : Int} {s2 : List Int} {s3 : List Int} {s4 : List Int} {s5 : List (List S97)} {s6 : List Int} {s7 : List Int} {s8 : List (List S97)} {s9 : List (List S97)} {s10 : Int} (h : NetAt W g s0 s1 s2 s3 s4 s5 s6 s7 s8 s9 s10) (b : Below W.heap.size W W1) : NetAt W1 g s0 s1 s2 s3 s4 s5 s6 s7 s8 s9 s10 := by
 obtain ⟨A2, c2, A3, c3, A4, c4, A5, c5, A6, c6, A7, c7, A8, c8, A9, c9, hb, ⟨h2, k2⟩, ⟨h3, k3⟩, ⟨h4, k4⟩, ⟨h5, k5⟩, ⟨h6, k6⟩, ⟨h7, k7⟩, ⟨h8, k8⟩, ⟨h9, k9⟩⟩ := h
 exact ⟨A2, c2, A3, c3, A4, c4, A5, c5, A6, c6, A7, c7, A8, c8, A9, c9, blk_below hb b, ⟨Kd.C_below h2 b, k2⟩, ⟨Kd.C_below h3 b, k3⟩, ⟨Kd.C_below h4 b, k4⟩, ⟨Kd.C_below h5 b, k5⟩, ⟨Kd.C_below h6 b, k6⟩, ⟨Kd.C_below h7 b, k7⟩, ⟨Kd.C_below h8 b, k8⟩, ⟨Kd.C_below h9 b, k9⟩⟩
theorem NetAt.drewN {W : World} {g : Nat} {s0 : Int} {s1 : Int} {s2 : List Int} {s3 : List Int} {s4 : List Int} {s5 : List (List S97)} {s6 : List Int} {s7 : List Int} {s8 : List (List S97)} {s9 : List (List S97)} {s10 : Int} (h : NetAt W g s0 s1 s2 s3 s4 s5 s6 s7 s8 s9 s10) (m : Nat) : NetAt (W.drewN m) g s0 s1 s2 s3 s4 s5 s6 s7 s8 s9 s10 := h
theorem NetAt.drewn0 {W W1 : World} {g : Nat} {s0 : Int} {s1 : Int} {s2 : List Int} {s3 : List Int} {s4 : List Int} {s5 : List (List S97)} {s6 : List Int} {s7 : List Int} {s8 : List (List S97)} {s9 : List (List S97)} {s10 : Int} (h : NetAt W g s0 s1 s2 s3 s4 s5 s6 s7 s8 s9 s10) (d : Drawn0 W W1) : NetAt W1 g s0 s1 s2 s3 s4 s5 s6 s7 s8 s9 s10 := by
 obtain ⟨m, rfl⟩ := d
 exact h
theorem below_drawn0 {w V W : World} (h : Below w.heap.size w V) (d : Drawn0 V W) : Below w.heap.size w W := by
 obtain ⟨m, rfl⟩ := d
 exact pw_below_drewN h m
def impl_Net_behind.f (k : Nat) (s0 s1 : Int) (s2 : List Int) (a1 a2 a3 : Int) : Option Int := if a2 = 4 then (some (-1)) else ((impl_live.f k s0 s1 s2 (wrap64 ((wrap64 (4 * a1)) + a2))).bind fun b => (if b = true then ((impl_endOf.f s0 s1 s2 (wrap64 ((wrap64 (4 * a1)) + a2))).bind fun e => ((impl_Opposite.f a2).bind fun o => (impl_BufferAt.f e o a3))) else (some (-1))))
theorem impl_Net_behind.mono (s0 s1 : Int) (s2 : List Int) (a1 a2 a3 : Int) : ∀ k, LeO (impl_Net_behind.f k s0 s1 s2 a1 a2 a3) (impl_Net_behind.f (k + 1) s0 s1 s2 a1 a2 a3) := by
 intro k
 unfold impl_Net_behind.f
 exact LeO.ite (LeO.refl _) (LeO.bind (impl_live.mono _ _ _ _ _) (fun _ => LeO.refl _))
theorem impl_Net_behind.e0 {P : Prop} (h : P := by
 go_enter Try.func106, Try.ntmps106
 go_wp2_with (first | (go_at_call 134; (with_reducible refine (impl_live.calls k s0 s1 _ _ s2 _ _ _ ?side1 HC2.out A1.out).mono ?_); (case side1 => exact cb_ HR2.out HB.out); rintro e w_0 ⟨rfl, hb⟩; replace BK := Aside0.mk (bk_ BK.out hb); replace HB := Aside0.mk (bs_ HB.out hb); (try clear hb); obtain ⟨z0, z1, z2, z3, z4, z5, z6, z7, z8, z9, z10, f0, f1, f2, f3, f4, f5, f6, f7, f8, f9, f10⟩ := cz11_ BK.out) | (go_at_call 135; (with_reducible refine (impl_endOf.calls s0 s1 _ _ s2 _ _ _ ?side1 HC2.out A2_.out).mono ?_); (case side1 => exact cb_ HR2.out HB.out); rintro e w_0 ⟨rfl, hb⟩; replace BK := Aside0.mk (bk_ BK.out hb); replace HB := Aside0.mk (bs_ HB.out hb); (try clear hb); obtain ⟨z0, z1, z2, z3, z4, z5, z6, z7, z8, z9, z10, f0, f1, f2, f3, f4, f5, f6, f7, f8, f9, f10⟩ := cz11_ BK.out) | (go_at_call 136; (with_reducible refine (impl_Opposite.calls _ _ _ A3_.out).mono ?_); rintro e w' ⟨rfl, ⟨nd, rfl⟩⟩) | (go_at_call 109; (with_reducible refine (impl_BufferAt.calls _ _ _ _ _ A4_.out).mono ?_); rintro e w' ⟨rfl, ⟨nd, rfl⟩⟩))
 go_ret
 exact ⟨fin_, bb_ HB.out⟩) : P := h
set_option maxHeartbeats 4000000 in
set_option maxRecDepth 100000 in
theorem impl_Net_behind.calls (k g : Nat) (s0 : Int) (s1 : Int) (s2 : List Int) (s3 : List Int) (s4 : List Int) (s5 : List (List S97)) (s6 : List Int) (s7 : List Int) (s8 : List (List S97)) (s9 : List (List S97)) (s10 : Int) (a1 a2 a3 r : Int) (w : World) (hN : NetAt w g s0 s1 s2 s3 s4 s5 s6 s7 s8 s9 s10) (h : impl_Net_behind.f k s0 s1 s2 a1 a2 a3 = some r) :
  Calls Try.prog 106 #[.pointer (some ⟨g, 0, none⟩), .int .i64 a1, .int .i64 a2, .int .i64 a3] w fun e w' => e = .returned (.int .i64 r) ∧ Below w.heap.size w w' := by
 obtain ⟨A2, c2, A3, c3, A4, c4, A5, c5, A6, c6, A7, c7, A8, c8, A9, c9, hb, ⟨h2, k2⟩, ⟨h3, k3⟩, ⟨h4, k4⟩, ⟨h5, k5⟩, ⟨h6, k6⟩, ⟨h7, k7⟩, ⟨h8, k8⟩, ⟨h9, k9⟩⟩ := hN
 have BK := Aside0.mk hb
 have HR2 := Aside0.mk h2
 have HC2 := Aside0.mk k2
 clear hb h2 k2 h3 k3 h4 k4 h5 k5 h6 k6 h7 k7 h8 k8 h9 k9
 have HB := Aside0.mk (Below.refl w.heap.size w)
 obtain ⟨z0, z1, z2, z3, z4, z5, z6, z7, z8, z9, z10, f0, f1, f2, f3, f4, f5, f6, f7, f8, f9, f10⟩ := cz11_ BK.out
 unfold impl_Net_behind.f at h
 by_cases c1 : a2 = 4
 ·rw [if_pos c1] at h
  obtain rfl := Option.some.inj h
  have c1b : (a2 == 4) = true := beq_iff_eq.mpr c1
  clear c1 h
  exact impl_Net_behind.e0
 ·rw [if_neg c1] at h
  have c1b : (a2 == 4) = false := beq_eq_false_iff_ne.mpr c1
  clear c1
  obtain ⟨b, A10, h⟩ := Option.bind_eq_some_iff.1 h
  have A1 := Aside0.mk A10
  clear A10
  cases b with
  | false =>
   have h1 : some (-1 : Int) = some r := h
   obtain rfl := Option.some.inj h1
   clear h h1
   exact impl_Net_behind.e0
  | true =>
   have h1 : ((impl_endOf.f s0 s1 s2 (wrap64 ((wrap64 (4 * a1)) + a2))).bind fun e => ((impl_Opposite.f a2).bind fun o => (impl_BufferAt.f e o a3))) = some r := h
   clear h
   obtain ⟨e0, A20, h⟩ := Option.bind_eq_some_iff.1 h1
   obtain ⟨o0, A30, h⟩ := Option.bind_eq_some_iff.1 h
   have A2_ := Aside0.mk A20
   have A3_ := Aside0.mk A30
   have A4_ := Aside0.mk h
   clear A20 A30 h h1
   exact impl_Net_behind.e0

/-! ### impl_Net_hasRoom: function 67 -/
def impl_Net_hasRoom.f (k : Nat) (s0 s1 : Int) (s2 : List Int) (s5 : List (List S97)) (a1 a2 a3 : Int) : Option Bool := if a2 = 4 then (some true) else ((impl_Net_behind.f k s0 s1 s2 a1 a2 a3).bind fun at_ => (if 0 ≤ at_ then (if at_ < (s5.length : Int) then (some (decide (((rd_L5 s5 at_).length : Int) < 3))) else none) else (some false)))
theorem impl_Net_hasRoom.mono (s0 s1 : Int) (s2 : List Int) (s5 : List (List S97)) (a1 a2 a3 : Int) : ∀ k, LeO (impl_Net_hasRoom.f k s0 s1 s2 s5 a1 a2 a3) (impl_Net_hasRoom.f (k + 1) s0 s1 s2 s5 a1 a2 a3) := by
 intro k
 unfold impl_Net_hasRoom.f
 exact LeO.ite (LeO.refl _) (LeO.bind (impl_Net_behind.mono _ _ _ _ _ _ _) (fun _ => LeO.refl _))
theorem impl_Net_hasRoom.e0 {P : Prop} (h : P := by
 go_enter Try.func67, Try.ntmps67
 go_wp2_with (first | (go_at_call 106; (with_reducible refine (impl_Net_behind.calls k g s0 s1 s2 s3 s4 s5 s6 s7 s8 s9 s10 a1 a2 a3 _ _ ?side1 A1.out).mono ?_); (case side1 => exact hNA.out); rintro e w_0 ⟨rfl, hb⟩; replace BK := Aside0.mk (bk_ BK.out hb); replace HB := Aside0.mk (bs_ HB.out hb); (try clear hb); obtain ⟨z0, z1, z2, z3, z4, z5, z6, z7, z8, z9, z10, f0, f1, f2, f3, f4, f5, f6, f7, f8, f9, f10⟩ := cz11_ BK.out; have hxE := (HB.out.cell (World.block_lt_of_cell? w _ hxA.out)).trans hxA.out) | (go_at_call 106; (with_reducible refine (impl_Net_behind.calls k g s0 s1 s2 s3 s4 s5 s6 s7 s8 s9 s10 a1 a2 a3 _ _ ?side1 A1.out).mono ?_); (case side1 => exact hNA.out); rintro e w_0 ⟨rfl, hb⟩; replace BK := Aside0.mk (bk_ BK.out hb); replace HB := Aside0.mk (bs_ HB.out hb); (try clear hb); obtain ⟨z0, z1, z2, z3, z4, z5, z6, z7, z8, z9, z10, f0, f1, f2, f3, f4, f5, f6, f7, f8, f9, f10⟩ := cz11_ BK.out))
 go_ret
 exact ⟨fin_, bb_ HB.out⟩) : P := h
set_option maxHeartbeats 4000000 in
set_option maxRecDepth 100000 in
theorem impl_Net_hasRoom.calls (k g : Nat) (s0 : Int) (s1 : Int) (s2 : List Int) (s3 : List Int) (s4 : List Int) (s5 : List (List S97)) (s6 : List Int) (s7 : List Int) (s8 : List (List S97)) (s9 : List (List S97)) (s10 : Int) (a1 a2 a3 : Int) (r : Bool) (w : World) (hN : NetAt w g s0 s1 s2 s3 s4 s5 s6 s7 s8 s9 s10) (h : impl_Net_hasRoom.f k s0 s1 s2 s5 a1 a2 a3 = some r) :
  Calls Try.prog 67 #[.pointer (some ⟨g, 0, none⟩), .int .i64 a1, .int .i64 a2, .int .i64 a3] w fun e w' => e = .returned (.bool r) ∧ Below w.heap.size w w' := by
 have hNA := Aside0.mk hN
 obtain ⟨A2, c2, A3, c3, A4, c4, A5, c5, A6, c6, A7, c7, A8, c8, A9, c9, hb, ⟨h2, k2⟩, ⟨h3, k3⟩, ⟨h4, k4⟩, ⟨h5, k5⟩, ⟨h6, k6⟩, ⟨h7, k7⟩, ⟨h8, k8⟩, ⟨h9, k9⟩⟩ := hN
 have BK := Aside0.mk hb
 have HR5 := Aside0.mk h5
 have HC5 := Aside0.mk k5
 clear hb h2 k2 h3 k3 h4 k4 h5 k5 h6 k6 h7 k7 h8 k8 h9 k9
 have HB := Aside0.mk (Below.refl w.heap.size w)
 obtain ⟨z0, z1, z2, z3, z4, z5, z6, z7, z8, z9, z10, f0, f1, f2, f3, f4, f5, f6, f7, f8, f9, f10⟩ := cz11_ BK.out
 unfold impl_Net_hasRoom.f at h
 by_cases c1 : a2 = 4
 ·rw [if_pos c1] at h
  obtain rfl := Option.some.inj h
  have c1b : (a2 == 4) = true := beq_iff_eq.mpr c1
  clear c1 h
  exact impl_Net_hasRoom.e0
 ·rw [if_neg c1] at h
  have c1b : (a2 == 4) = false := beq_eq_false_iff_ne.mpr c1
  clear c1
  obtain ⟨at_, A10, h⟩ := Option.bind_eq_some_iff.1 h
  have A1 := Aside0.mk A10
  clear A10
  by_cases c2 : 0 ≤ at_
  ·rw [if_pos c2] at h
   by_cases c3 : at_ < (s5.length : Int)
   ·rw [if_pos c3] at h
    obtain rfl := Option.some.inj h
    clear h
    obtain ⟨ad, AE, cE, eE, hxE, hlE, hiE⟩ := at_L5 HR5.out at_ c2 c3
    cases eE
    have hxA := Aside0.mk hxE
    clear hxE hlE hiE
    have c2b : decide (0 ≤ at_) = true := decide_eq_true c2
    have c3b : decide (at_ < (s5.length : Int)) = true := decide_eq_true c3
    replace c2 := eq_true c2
    replace c3 := eq_true c3
    exact impl_Net_hasRoom.e0
   ·rw [if_neg c3] at h
    exact absurd h (by simp)
  ·rw [if_neg c2] at h
   obtain rfl := Option.some.inj h
   clear h
   have c2b : decide (0 ≤ at_) = false := decide_eq_false c2
   clear c2
   exact impl_Net_hasRoom.e0

/-! ### impl_tableFor: function 108 -/
def impl_tableFor.f (l0_0 : List Int) (l0_1 : List Int) (a1 : Int) : Option (List Int) := if a1 = 1 then (some l0_1) else (some l0_0)
set_option maxHeartbeats 8000000 in
set_option maxRecDepth 100000 in
theorem impl_tableFor.calls (P0_0_ : Nat → Prop) (u9000_ : Value) (l0_0 : List Int) (P0_1_ : Nat → Prop) (u9001_ : Value) (l0_1 : List Int) (a1 : Int) (r : List Int) (w0 w : World) (hB : Below w0.heap.size w0 w) (ho0_0 : Kd.R (Kd.int .i64) 3 w w0.heap.size P0_0_ u9000_ l0_0) (hp0_0_0_1 : ∀ k_, P0_0_ k_ → ¬ P0_1_ k_) (ho0_1 : Kd.R (Kd.int .i64) 3 w w0.heap.size P0_1_ u9001_ l0_1) (hp0_1_0_0 : ∀ k_, P0_1_ k_ → ¬ P0_0_ k_) (h : impl_tableFor.f l0_0 l0_1 a1 = some r) :
  Calls Try.prog 108 #[.agg #[u9000_, u9001_], .int .i64 a1] w fun e w' => ∃ v0_ : Value, e = .returned (.agg #[v0_]) ∧ Kd.R (Kd.int .i64) 3 w' w0.heap.size (fun k_ => ((P0_0_ k_ ∨ P0_1_ k_) ∨ w.heap.size ≤ k_)) v0_ r ∧ Below w0.heap.size w0 w' ∧ Kept w w' (fun k_ => P0_0_ k_ ∨ P0_1_ k_) := by
 have hu41 := Try.underlying41
 have hu39 := Try.underlying39
 have HO0_0 := Aside0.mk (show Kd.R (Kd.int .i64) 3 w w0.heap.size (fun k_ => ((P0_0_ k_ ∨ P0_1_ k_) ∨ w.heap.size ≤ k_) ∧ some k_ ≠ (u9001_ : Value).ownBlock) u9000_ l0_0 from Kd.R_mono ho0_0 (fun k_ hk => ⟨(.inl (.inl hk)), fun e_ => hp0_0_0_1 k_ hk (ho0_1.1 k_ e_.symm)⟩))
 have HO0_1 := Aside0.mk (show Kd.R (Kd.int .i64) 3 w w0.heap.size (fun k_ => ((P0_0_ k_ ∨ P0_1_ k_) ∨ w.heap.size ≤ k_) ∧ some k_ ≠ (u9000_ : Value).ownBlock) u9001_ l0_1 from Kd.R_mono ho0_1 (fun k_ hk => ⟨(.inl (.inr hk)), fun e_ => hp0_1_0_0 k_ hk (ho0_0.1 k_ e_.symm)⟩))
 have HK := Aside0.mk (Kept.refl w (fun k_ => P0_0_ k_ ∨ P0_1_ k_))
 have HW0 := Aside0.mk hB.size
 have HB := Aside0.mk hB
 clear hB
 have H : (if a1 = 1 then (some l0_1) else (some l0_0)) = some r := h
 clear h
 by_cases c3 : a1 = 1
 ·rw [if_pos c3] at H
  have c3b0 : (a1 == 1) = true := beq_iff_eq.mpr c3
  have c3b1 : (a1 != 1) = false := bne_eq_false_iff_eq.mpr c3
  clear c3
  obtain rfl := Option.some.inj H
  obtain ⟨Ao4, co4, eo4⟩ := Kd.R_slice HO0_0.out
  subst eo4
  obtain ⟨Ao5, co5, eo5⟩ := Kd.R_slice HO0_1.out
  subst eo5
  go_enter Try.func108, Try.ntmps108
  go_wp2_with (first | ((with_reducible refine gate_dst (N := 2) rfl ?_); refine box_event ?hg (N := 2) ?hd (cs := #[.slice Ao4 l0_0.length co4, .slice Ao5 l0_1.length co5]) (t := 41) ?hr ?_; (case hd => rfl); (case hg => rfl); (case hr => first | (go_simp; done) | (go_simp; rfl)); intro gb453 hg w6 hbox hb; replace HO0_0 := Aside0.mk (Kd.R_below (ra_ HO0_0.out) hb); replace HO0_1 := Aside0.mk (Kd.R_below (ra_ HO0_1.out) hb); have BK453 := Aside0.mk (hbox); have GW453 := Aside0.mk ((by rw [hg]; exact (by first | exact HK.out.1 | exact (show Kept w _ (fun k_ => P0_0_ k_ ∨ P0_1_ k_) from by repeat (first | (with_reducible first | exact HK.out | apply Kept.alloc | apply Kept.drewN | apply Kept.drew) | exact HK.out)).1) : w.heap.size ≤ gb453)); replace HK := Aside0.mk (Kept.below (S := (fun k_ => P0_0_ k_ ∨ P0_1_ k_)) (by repeat (first | (with_reducible first | exact HK.out | apply Kept.alloc | apply Kept.drewN | apply Kept.drew) | exact HK.out)) hb); have GE453 := Aside0.mk ((by rw [hg]; exact (bz_ HB.out) : w0.heap.size ≤ gb453)); replace HB := Aside0.mk (bs_ HB.out hb); clear hb hbox hg) | ((with_reducible refine gate_dst (N := 4) rfl ?_); refine box_event ?hg (N := 4) ?hd (cs := #[.slice none 0 0]) (t := 39) ?hr ?_; (case hd => rfl); (case hg => rfl); (case hr => first | (go_simp; done) | (go_simp; rfl)); intro gb454 hg w7 hbox hb; replace HO0_0 := Aside0.mk (Kd.R_below (ra_ HO0_0.out) hb); replace HO0_1 := Aside0.mk (Kd.R_below (ra_ HO0_1.out) hb); have BK454 := Aside0.mk (hbox); have GW454 := Aside0.mk ((by rw [hg]; exact (by first | exact HK.out.1 | exact (show Kept w _ (fun k_ => P0_0_ k_ ∨ P0_1_ k_) from by repeat (first | (with_reducible first | exact HK.out | apply Kept.alloc | apply Kept.drewN | apply Kept.drew | refine Kept.setCell ?_ (.inr GW453.out) _) | exact HK.out)).1) : w.heap.size ≤ gb454)); replace HK := Aside0.mk (Kept.below (S := (fun k_ => P0_0_ k_ ∨ P0_1_ k_)) (by repeat (first | (with_reducible first | exact HK.out | apply Kept.alloc | apply Kept.drewN | apply Kept.drew | refine Kept.setCell ?_ (.inr GW453.out) _) | exact HK.out)) hb); have GE454 := Aside0.mk ((by rw [hg]; exact (bz_ HB.out) : w0.heap.size ≤ gb454)); replace HB := Aside0.mk (bs_ HB.out hb); have NB453_454 := Aside0.mk ((by rw [hg]; exact Nat.ne_of_lt (bl_ BK453.out) : gb453 ≠ gb454)); have NB454_453 := Aside0.mk ((by rw [hg]; exact Nat.ne_of_gt (bl_ BK453.out) : gb454 ≠ gb453)); replace BK453 := Aside0.mk (bk_ BK453.out hb); clear hb hbox hg; have hnb8 := NB453_454.out; have hnc8 := NB454_453.out; obtain ⟨hcz9_0, hcz9_1, hfz9_0, hfz9_1⟩ := cz2_ BK453.out; obtain ⟨hcz10_0, hfz10_0⟩ := cz1_ BK454.out))
  refine bodyPost_ret (results_cell_row rfl _ _ gb454 39 #[.slice Ao5 l0_1.length co5] (0, 0) _ rfl (by (with_reducible repeat (first | refine blk_drewN ?_ _ | refine blk_drew ?_ | refine blk_alloc ?_ _)); refine blk_put (cs := #[.slice none 0 0]) ?_ 0 _ rfl; (with_reducible repeat (first | refine blk_drewN ?_ _ | refine blk_drew ?_ | refine blk_alloc ?_ _)); exact BK454.out) Try.underlying39 rfl (by kernel_rfl)) rfl ?_
  exact ⟨_, fin_, rm_ (Kd.R_types HO0_1.out BK454.out (by decide)) (fun _ hk => hk.1.1), bb_ HB.out, by repeat (first | (with_reducible first | exact HK.out | apply Kept.alloc | apply Kept.drewN | apply Kept.drew | refine Kept.setCell ?_ (.inr GW453.out) _ | refine Kept.setCell ?_ (.inr GW454.out) _) | exact HK.out)⟩
 ·rw [if_neg c3] at H
  have c3b0 : (a1 == 1) = false := beq_eq_false_iff_ne.mpr c3
  have c3b1 : (a1 != 1) = true := bne_iff_ne.mpr c3
  obtain rfl := Option.some.inj H
  obtain ⟨Ao11, co11, eo11⟩ := Kd.R_slice HO0_0.out
  subst eo11
  obtain ⟨Ao12, co12, eo12⟩ := Kd.R_slice HO0_1.out
  subst eo12
  go_enter Try.func108, Try.ntmps108
  go_wp2_with (first | ((with_reducible refine gate_dst (N := 2) rfl ?_); refine box_event ?hg (N := 2) ?hd (cs := #[.slice Ao11 l0_0.length co11, .slice Ao12 l0_1.length co12]) (t := 41) ?hr ?_; (case hd => rfl); (case hg => rfl); (case hr => first | (go_simp; done) | (go_simp; rfl)); intro gb453 hg w13 hbox hb; replace HO0_0 := Aside0.mk (Kd.R_below (ra_ HO0_0.out) hb); replace HO0_1 := Aside0.mk (Kd.R_below (ra_ HO0_1.out) hb); have BK453 := Aside0.mk (hbox); have GW453 := Aside0.mk ((by rw [hg]; exact (by first | exact HK.out.1 | exact (show Kept w _ (fun k_ => P0_0_ k_ ∨ P0_1_ k_) from by repeat (first | (with_reducible first | exact HK.out | apply Kept.alloc | apply Kept.drewN | apply Kept.drew) | exact HK.out)).1) : w.heap.size ≤ gb453)); replace HK := Aside0.mk (Kept.below (S := (fun k_ => P0_0_ k_ ∨ P0_1_ k_)) (by repeat (first | (with_reducible first | exact HK.out | apply Kept.alloc | apply Kept.drewN | apply Kept.drew) | exact HK.out)) hb); have GE453 := Aside0.mk ((by rw [hg]; exact (bz_ HB.out) : w0.heap.size ≤ gb453)); replace HB := Aside0.mk (bs_ HB.out hb); clear hb hbox hg) | ((with_reducible refine gate_dst (N := 4) rfl ?_); refine box_event ?hg (N := 4) ?hd (cs := #[.slice none 0 0]) (t := 39) ?hr ?_; (case hd => rfl); (case hg => rfl); (case hr => first | (go_simp; done) | (go_simp; rfl)); intro gb454 hg w14 hbox hb; replace HO0_0 := Aside0.mk (Kd.R_below (ra_ HO0_0.out) hb); replace HO0_1 := Aside0.mk (Kd.R_below (ra_ HO0_1.out) hb); have BK454 := Aside0.mk (hbox); have GW454 := Aside0.mk ((by rw [hg]; exact (by first | exact HK.out.1 | exact (show Kept w _ (fun k_ => P0_0_ k_ ∨ P0_1_ k_) from by repeat (first | (with_reducible first | exact HK.out | apply Kept.alloc | apply Kept.drewN | apply Kept.drew | refine Kept.setCell ?_ (.inr GW453.out) _) | exact HK.out)).1) : w.heap.size ≤ gb454)); replace HK := Aside0.mk (Kept.below (S := (fun k_ => P0_0_ k_ ∨ P0_1_ k_)) (by repeat (first | (with_reducible first | exact HK.out | apply Kept.alloc | apply Kept.drewN | apply Kept.drew | refine Kept.setCell ?_ (.inr GW453.out) _) | exact HK.out)) hb); have GE454 := Aside0.mk ((by rw [hg]; exact (bz_ HB.out) : w0.heap.size ≤ gb454)); replace HB := Aside0.mk (bs_ HB.out hb); have NB453_454 := Aside0.mk ((by rw [hg]; exact Nat.ne_of_lt (bl_ BK453.out) : gb453 ≠ gb454)); have NB454_453 := Aside0.mk ((by rw [hg]; exact Nat.ne_of_gt (bl_ BK453.out) : gb454 ≠ gb453)); replace BK453 := Aside0.mk (bk_ BK453.out hb); clear hb hbox hg; have hnb15 := NB453_454.out; have hnc15 := NB454_453.out; obtain ⟨hcz16_0, hcz16_1, hfz16_0, hfz16_1⟩ := cz2_ BK453.out; obtain ⟨hcz17_0, hfz17_0⟩ := cz1_ BK454.out))
  refine bodyPost_ret (results_cell_row rfl _ _ gb454 39 #[.slice Ao11 l0_0.length co11] (0, 0) _ rfl (by (with_reducible repeat (first | refine blk_drewN ?_ _ | refine blk_drew ?_ | refine blk_alloc ?_ _)); refine blk_put (cs := #[.slice none 0 0]) ?_ 0 _ rfl; (with_reducible repeat (first | refine blk_drewN ?_ _ | refine blk_drew ?_ | refine blk_alloc ?_ _)); exact BK454.out) Try.underlying39 rfl (by kernel_rfl)) rfl ?_
  exact ⟨_, fin_, rm_ (Kd.R_types HO0_0.out BK454.out (by decide)) (fun _ hk => hk.1.1), bb_ HB.out, by repeat (first | (with_reducible first | exact HK.out | apply Kept.alloc | apply Kept.drewN | apply Kept.drew | refine Kept.setCell ?_ (.inr GW453.out) _ | refine Kept.setCell ?_ (.inr GW454.out) _) | exact HK.out)⟩

/-! ### impl_Net_wanted: function 69 -/
/-- The first flit of a list, in memory. -/
theorem headF {w : World} {A : Option Addr} {n : Nat} {xs : List S97} (h : Kd.C k97 w A n xs) (h1 : (0 : Int) < (n : Int)) : ∃ ad, A = some ad ∧ w.cell? ad = some (.int .i64 (rd_T97 xs 0).f0) ∧ w.cell? ⟨ad.block, ad.off + 1, none⟩ = some (.int .i64 (rd_T97 xs 0).f1) ∧ w.cell? ⟨ad.block, ad.off + 2, none⟩ = some (.int .i64 (rd_T97 xs 0).f2) ∧ w.cell? ⟨ad.block, ad.off + 3, none⟩ = some (.bool (rd_T97 xs 0).f3) ∧ w.cell? ⟨ad.block, ad.off + 4, none⟩ = some (.bool (rd_T97 xs 0).f4) := by
 obtain ⟨ad, e, c0, c1, c2, c3, c4⟩ := at_T97 h 0 (by omega) h1
 rw [show (0 : Int).toNat = 0 from rfl, show 0 * 5 = 0 from rfl, Addr.add_zero'] at c0 c1 c2 c3 c4
 exact ⟨ad, e, c0, c1, c2, c3, c4⟩
/-- 'tableFor', read. -/
theorem tableFor_r (A3 : Option Addr) (c3 : Nat) (s3 : List Int) (A4 : Option Addr) (c4 : Nat) (s4 : List Int) (c : Int) (A : Option Addr) (cc : Nat) (s : List Int) (w : World) (h : (c = 1 ∧ A = A4 ∧ cc = c4 ∧ s = s4) ∨ (¬ c = 1 ∧ A = A3 ∧ cc = c3 ∧ s = s3)) :
  Calls Try.prog 108 #[.agg #[.slice A3 s3.length c3, .slice A4 s4.length c4], .int .i64 c] w fun e w' => e = .returned (.agg #[.slice A s.length cc]) ∧ Below w.heap.size w w' := by
 have HB := Aside0.mk (Below.refl w.heap.size w)
 rcases h with ⟨h1, rfl, rfl, rfl⟩ | ⟨h1, rfl, rfl, rfl⟩
 ·have h1b : (c == 1) = true := beq_iff_eq.mpr h1
  clear h1
  go_enter Try.func108, Try.ntmps108
  go_wp2
  refine bodyPost_ret (v := .agg #[.slice A s.length cc]) (by simp [results, Try.results108, go_sem]) rfl ⟨rfl, ?_⟩
  exact bb_ HB.out
 ·have h1b : (c == 1) = false := beq_eq_false_iff_ne.mpr h1
  clear h1
  go_enter Try.func108, Try.ntmps108
  go_wp2
  refine bodyPost_ret (v := .agg #[.slice A s.length cc]) (by simp [results, Try.results108, go_sem]) rfl ⟨rfl, ?_⟩
  exact bb_ HB.out
def impl_Net_wanted.l0 : Nat → List Int → Int → Int → Int → Option Int
 | 0, _, _, _, _ => none
 | k + 1, s6, a1, a2, x => if x ≤ 4 then ((impl_BufferAt.f a1 x (Int.tmod a2 2)).bind fun t => (if 0 ≤ t then (if t < (s6.length : Int) then (if rd s6 t = (wrap64 (Int.tdiv a2 2)) then (some x) else (impl_Net_wanted.l0 k s6 a1 a2 (wrap64 (x + 1)))) else none) else none)) else (some (-1))
def impl_Net_wanted.f (k : Nat) (s0 s1 : Int) (s2 s3 s4 : List Int) (s5 : List (List S97)) (s6 : List Int) (a1 a2 : Int) : Option Int := if 0 ≤ (wrap64 ((wrap64 (10 * a1)) + a2)) then (if (wrap64 ((wrap64 (10 * a1)) + a2)) < (s5.length : Int) then (if ((rd_L5 s5 (wrap64 ((wrap64 (10 * a1)) + a2))).length : Int) = 0 then (some (-1)) else (if (rd_T97 (rd_L5 s5 (wrap64 ((wrap64 (10 * a1)) + a2))) 0).f3 = true then (impl_PortAt.f k s0 s1 s2 (if (rd_T97 (rd_L5 s5 (wrap64 ((wrap64 (10 * a1)) + a2))) 0).f2 = 1 then s4 else s3) a1 (rd_T97 (rd_L5 s5 (wrap64 ((wrap64 (10 * a1)) + a2))) 0).f1) else (impl_Net_wanted.l0 k s6 a1 a2 0))) else none) else none
theorem impl_Net_wanted.mono_l : ∀ k s6 a1 a2 x, LeO (impl_Net_wanted.l0 k s6 a1 a2 x) (impl_Net_wanted.l0 (k + 1) s6 a1 a2 x)
 | 0, _, _, _, _ => fun r h => by simp [impl_Net_wanted.l0] at h
 | k + 1, s6, a1, a2, x => by
  have ih := impl_Net_wanted.mono_l k
  unfold impl_Net_wanted.l0
  exact LeO.ite (LeO.bind (LeO.refl _) (fun _ => LeO.ite (LeO.ite (LeO.ite (LeO.refl _) (ih _ _ _ _)) (LeO.refl _)) (LeO.refl _))) (LeO.refl _)
theorem impl_Net_wanted.mono (s0 s1 : Int) (s2 s3 s4 : List Int) (s5 : List (List S97)) (s6 : List Int) (a1 a2 : Int) : ∀ k, LeO (impl_Net_wanted.f k s0 s1 s2 s3 s4 s5 s6 a1 a2) (impl_Net_wanted.f (k + 1) s0 s1 s2 s3 s4 s5 s6 a1 a2) := by
 intro k
 unfold impl_Net_wanted.f
 exact LeO.ite (LeO.ite (LeO.ite (LeO.refl _) (LeO.ite (impl_PortAt.mono _ _ _ _ _ _ _) (impl_Net_wanted.mono_l _ _ _ _ _))) (LeO.refl _)) (LeO.refl _)
set_option maxHeartbeats 4000000 in
set_option maxRecDepth 100000 in
theorem impl_Net_wanted.calls (k g : Nat) (s0 : Int) (s1 : Int) (s2 : List Int) (s3 : List Int) (s4 : List Int) (s5 : List (List S97)) (s6 : List Int) (s7 : List Int) (s8 : List (List S97)) (s9 : List (List S97)) (s10 : Int) (a1 a2 : Int) (r : Int) (w : World) (hN : NetAt w g s0 s1 s2 s3 s4 s5 s6 s7 s8 s9 s10) (h : impl_Net_wanted.f k s0 s1 s2 s3 s4 s5 s6 a1 a2 = some r) :
  Calls Try.prog 69 #[.pointer (some ⟨g, 0, none⟩), .int .i64 a1, .int .i64 a2] w fun e w' => e = .returned (.int .i64 r) ∧ Below w.heap.size w w' := by
 obtain ⟨A2, c2, A3, c3, A4, c4, A5, c5, A6, c6, A7, c7, A8, c8, A9, c9, hb, ⟨h2, k2⟩, ⟨h3, k3⟩, ⟨h4, k4⟩, ⟨h5, k5⟩, ⟨h6, k6⟩, ⟨h7, k7⟩, ⟨h8, k8⟩, ⟨h9, k9⟩⟩ := hN
 have BK := Aside0.mk hb
 have HR2 := Aside0.mk h2
 have HC2 := Aside0.mk k2
 have HR3 := Aside0.mk h3
 have HC3 := Aside0.mk k3
 have HR4 := Aside0.mk h4
 have HC4 := Aside0.mk k4
 have HR5 := Aside0.mk h5
 have HC5 := Aside0.mk k5
 have HR6 := Aside0.mk h6
 have HC6 := Aside0.mk k6
 clear hb h2 k2 h3 k3 h4 k4 h5 k5 h6 k6 h7 k7 h8 k8 h9 k9
 have HB := Aside0.mk (Below.refl w.heap.size w)
 obtain ⟨z0, z1, z2, z3, z4, z5, z6, z7, z8, z9, z10, f0, f1, f2, f3, f4, f5, f6, f7, f8, f9, f10⟩ := cz11_ BK.out
 unfold impl_Net_wanted.f at h
 obtain ⟨ix, hix⟩ : ∃ j_ : Int, (wrap64 ((wrap64 (10 * a1)) + a2)) = j_ := ⟨_, rfl⟩
 have hixw : (IntKind.i64.wrap ((wrap64 (10 * a1)) + a2)) = ix := (i64_w _).trans hix
 rw [hix] at h
 by_cases q1 : 0 ≤ ix
 ·rw [if_pos q1] at h
  by_cases q2 : ix < (s5.length : Int)
  ·rw [if_pos q2] at h
   obtain ⟨ad, AE, cE, eE, hxE, hlE, hiE⟩ := at_L5 HR5.out ix q1 q2
   cases eE
   have HRL := Aside0.mk hiE
   clear hlE hiE
   have q1b : decide (0 ≤ ix) = true := decide_eq_true q1
   have q2b : decide (ix < (s5.length : Int)) = true := decide_eq_true q2
   replace q1 := eq_true q1
   replace q2 := eq_true q2
   by_cases q3 : ((rd_L5 s5 ix).length : Int) = 0
   ·rw [if_pos q3] at h
    obtain rfl := Option.some.inj h
    clear h
    have q3b : (((rd_L5 s5 ix).length : Int) == 0) = true := beq_iff_eq.mpr q3
    clear q3
    go_enter Try.func69, Try.ntmps69
    go_wp2
    go_ret
    exact ⟨fin_, bb_ HB.out⟩
   ·rw [if_neg q3] at h
    have q3b : (((rd_L5 s5 ix).length : Int) == 0) = false := beq_eq_false_iff_ne.mpr q3
    have q4 : (0 : Int) < ((rd_L5 s5 ix).length : Int) := by omega
    clear q3
    obtain ⟨ah, eh, hh0, hh1, hh2, hh3, hh4⟩ := headF HRL.out q4
    cases eh
    have q4b : decide ((0 : Int) < ((rd_L5 s5 ix).length : Int)) = true := decide_eq_true q4
    have q4n : (0 < (rd_L5 s5 ix).length) = True := eq_true (by omega)
    clear q4
    by_cases q5 : (rd_T97 (rd_L5 s5 ix) 0).f3 = true
    ·rw [if_pos q5] at h
     rw [q5] at hh3
     clear q5
     go_enter Try.func69, Try.ntmps69
     obtain ⟨AT, cT, T, hT0, HRT, HCT, hPA⟩ : ∃ (AT : Option Addr) (cT : Nat) (T : List Int), ((rd_T97 (rd_L5 s5 ix) 0).f2 = 1 ∧ AT = A4 ∧ cT = c4 ∧ T = s4 ∨ ¬ (rd_T97 (rd_L5 s5 ix) 0).f2 = 1 ∧ AT = A3 ∧ cT = c3 ∧ T = s3) ∧ Aside0 (Kd.C (Kd.int .i64) w AT T.length T) ∧ Aside0 (T.length ≤ cT) ∧ Aside0 (impl_PortAt.f k s0 s1 s2 T a1 (rd_T97 (rd_L5 s5 ix) 0).f1 = some r) := by
      by_cases q6 : (rd_T97 (rd_L5 s5 ix) 0).f2 = 1
      ·rw [if_pos q6] at h
       exact ⟨A4, c4, s4, .inl ⟨q6, rfl, rfl, rfl⟩, HR4, HC4, ⟨h⟩⟩
      ·rw [if_neg q6] at h
       exact ⟨A3, c3, s3, .inr ⟨q6, rfl, rfl, rfl⟩, HR3, HC3, ⟨h⟩⟩
     have hT := Aside0.mk hT0
     clear hT0 h
     go_wp2_with fail
     go_region_held3 (fun w' => w'.cell? ⟨g, 0, none⟩ = some (.int .i64 s0) ∧ w'.cell? ⟨g, 1, none⟩ = some (.int .i64 s1) ∧ w'.cell? ⟨g, 2, none⟩ = some (.slice A2 s2.length c2) ∧ w'.cell? ⟨g, 3, none⟩ = some (.slice A3 s3.length c3) ∧ w'.cell? ⟨g, 4, none⟩ = some (.slice A4 s4.length c4) ∧ w'.cell? ⟨ah.block, ah.off + 1, none⟩ = some (.int .i64 (rd_T97 (rd_L5 s5 ix) 0).f1) ∧ w'.cell? ⟨ah.block, ah.off + 2, none⟩ = some (.int .i64 (rd_T97 (rd_L5 s5 ix) 0).f2))
      (first | exact ⟨z0, z1, z2, z3, z4, hh1, hh2⟩ | exact ⟨m0, m1, m2, m3, m4, m5, m6⟩ | exact ⟨n0, n1, n2, n3, n4, n5, n6⟩)
      (first
       | (go_at_call 108; refine (tableFor_r A3 c3 s3 A4 c4 s4 _ AT cT T _ hT.out).mono ?_; rintro e w1 ⟨rfl, hb⟩; have m0 := (hb.cell (World.block_lt_of_cell? w _ z0)).trans z0; have m1 := (hb.cell (World.block_lt_of_cell? w _ z1)).trans z1; have m2 := (hb.cell (World.block_lt_of_cell? w _ z2)).trans z2; have m3 := (hb.cell (World.block_lt_of_cell? w _ z3)).trans z3; have m4 := (hb.cell (World.block_lt_of_cell? w _ z4)).trans z4; have m5 := (hb.cell (World.block_lt_of_cell? w _ hh1)).trans hh1; have m6 := (hb.cell (World.block_lt_of_cell? w _ hh2)).trans hh2; replace HB := Aside0.mk (bs_ HB.out hb); (try clear hb))
       | (go_at_call 107; refine (impl_PortAt.calls k s0 s1 _ _ s2 _ _ T a1 _ r _ (cb_ HR2.out HB.out) HC2.out (cb_ HRT.out HB.out) HCT.out hPA.out).mono ?_; rintro e w2 ⟨rfl, hb⟩; have n0 := (hb.cell (World.block_lt_of_cell? w1 _ m0)).trans m0; have n1 := (hb.cell (World.block_lt_of_cell? w1 _ m1)).trans m1; have n2 := (hb.cell (World.block_lt_of_cell? w1 _ m2)).trans m2; have n3 := (hb.cell (World.block_lt_of_cell? w1 _ m3)).trans m3; have n4 := (hb.cell (World.block_lt_of_cell? w1 _ m4)).trans m4; have n5 := (hb.cell (World.block_lt_of_cell? w1 _ m5)).trans m5; have n6 := (hb.cell (World.block_lt_of_cell? w1 _ m6)).trans m6; replace HB := Aside0.mk (bs_ HB.out hb); (try clear hb)))
     go_wp2
     go_ret
     exact ⟨fin_, bb_ HB.out⟩
    ·rw [if_neg q5] at h
     have q5 := Bool.eq_false_iff.mpr q5
     rw [q5] at hh3
     clear q5
     go_enter Try.func69, Try.ntmps69
     have H' := Aside0.mk h
     clear h
     go_wp2_with fail
     go_loopg [8] k (fun kq v8 w' => ∃ x : Int, v8 = .int .i64 x ∧ Aside0 (impl_Net_wanted.l0 kq s6 a1 a2 x = some r) ∧ Aside0 (kq ≤ k) ∧ Drawn0 w w')
     case atStart => exact ⟨0, ef_, H', ⟨Nat.le_refl _⟩, Drawn0.refl _⟩
     case round =>
      clear H'
      obtain ⟨x, rfl, HA, HK1, ⟨m1, rfl⟩⟩ := hrel
      cases gk with
      | zero => exact absurd HA.out (by simp [impl_Net_wanted.l0])
      | succ k1 =>
       have H := HA.out
       clear HA
       simp only [impl_Net_wanted.l0] at H
       by_cases q6 : x ≤ 4
       ·rw [if_pos q6] at H
        have q6b : decide (x ≤ 4) = true := decide_eq_true q6
        clear q6
        obtain ⟨t, A10, H⟩ := Option.bind_eq_some_iff.1 H
        have A1 := Aside0.mk A10
        clear A10
        by_cases q7 : 0 ≤ t
        ·rw [if_pos q7] at H
         by_cases q8 : t < (s6.length : Int)
         ·rw [if_pos q8] at H
          obtain ⟨at_, ea, hx⟩ := Kd.at_int HR6.out t q7 q8
          cases ea
          have q7b : decide (0 ≤ t) = true := decide_eq_true q7
          have q8b : decide (t < (s6.length : Int)) = true := decide_eq_true q8
          replace q7 := eq_true q7
          replace q8 := eq_true q8
          by_cases q9 : rd s6 t = (wrap64 (Int.tdiv a2 2))
          ·rw [if_pos q9] at H
           have q9b : (rd s6 t == (wrap64 (Int.tdiv a2 2))) = true := beq_iff_eq.mpr q9
           clear q9
           obtain rfl := Option.some.inj H
           clear H
           go_wp2_with fail
           go_quiet ((go_at_call 109; (with_reducible refine (impl_BufferAt.calls _ _ _ _ _ A1.out).mono ?_); rintro e w' ⟨rfl, ⟨nd, rfl⟩⟩; (first | exact ⟨rfl, _, World.drewN_drewN _ _ _⟩ | exact ⟨rfl, _, Eq.trans (World.drewN_drewN _ _ _) (congrArg (World.drewN _) (Nat.add_assoc _ _ _))⟩)))
           go_wp2
           go_ret
           exact ⟨fin_, bb_ HB.out⟩
          ·rw [if_neg q9] at H
           have q9b : (rd s6 t == (wrap64 (Int.tdiv a2 2))) = false := beq_eq_false_iff_ne.mpr q9
           clear q9
           have H' := Aside0.mk H
           clear H
           go_wp2_with fail
           go_quiet ((go_at_call 109; (with_reducible refine (impl_BufferAt.calls _ _ _ _ _ A1.out).mono ?_); rintro e w' ⟨rfl, ⟨nd, rfl⟩⟩; (first | exact ⟨rfl, _, World.drewN_drewN _ _ _⟩ | exact ⟨rfl, _, Eq.trans (World.drewN_drewN _ _ _) (congrArg (World.drewN _) (Nat.add_assoc _ _ _))⟩)))
           go_wp2
           go_roundg k1
           case measure => have := HK1.out; omega
           case rel => exact ⟨wrap64 (x + 1), ef_, H', ⟨by have := HK1.out; omega⟩, by repeat (first | exact Drawn0.refl _ | apply Drawn0.step)⟩
         ·rw [if_neg q8] at H
          exact absurd H (by simp)
        ·rw [if_neg q7] at H
         exact absurd H (by simp)
       ·rw [if_neg q6] at H
        have q6b : decide (x ≤ 4) = false := decide_eq_false q6
        clear q6
        obtain rfl := Option.some.inj H
        clear H
        go_wp2
        go_ret
        exact ⟨fin_, bb_ HB.out⟩
  ·rw [if_neg q2] at h
   exact absurd h (by simp)
 ·rw [if_neg q1] at h
  exact absurd h (by simp)

/-! ### impl_Net_isRequest: function 79 -/
def impl_Net_isRequest.f (k : Nat) (s0 s1 : Int) (s2 s3 s4 : List Int) (s5 : List (List S97)) (s6 : List Int) (a1 a2 a3 : Int) : Option Bool := if a3 < 0 then (some false) else ((impl_Net_wanted.f k s0 s1 s2 s3 s4 s5 s6 a1 a2).bind fun p => (if p = a3 then ((impl_Net_hasRoom.f k s0 s1 s2 s5 a1 a3 (Int.tmod a2 2)).bind fun b => (if b = true then ((impl_BufferAt.f a1 a3 (Int.tmod a2 2)).bind fun t => (if 0 ≤ t then (if t < (s6.length : Int) then (if 0 ≤ (wrap64 ((wrap64 (10 * a1)) + a2)) then (if (wrap64 ((wrap64 (10 * a1)) + a2)) < (s5.length : Int) then (if 0 < ((rd_L5 s5 (wrap64 ((wrap64 (10 * a1)) + a2))).length : Int) then (if (rd_T97 (rd_L5 s5 (wrap64 ((wrap64 (10 * a1)) + a2))) 0).f3 = true then (some (decide (rd s6 t = -1))) else (some (decide (rd s6 t = (wrap64 (Int.tdiv a2 2)))))) else none) else none) else none) else none) else none)) else (some false))) else (some false)))
theorem impl_Net_isRequest.mono (s0 s1 : Int) (s2 s3 s4 : List Int) (s5 : List (List S97)) (s6 : List Int) (a1 a2 a3 : Int) : ∀ k, LeO (impl_Net_isRequest.f k s0 s1 s2 s3 s4 s5 s6 a1 a2 a3) (impl_Net_isRequest.f (k + 1) s0 s1 s2 s3 s4 s5 s6 a1 a2 a3) := by
 intro k
 unfold impl_Net_isRequest.f
 exact LeO.ite (LeO.refl _) (LeO.bind (impl_Net_wanted.mono _ _ _ _ _ _ _ _ _ _) (fun _ => LeO.ite (LeO.bind (impl_Net_hasRoom.mono _ _ _ _ _ _ _ _) (fun _ => LeO.refl _)) (LeO.refl _)))
theorem impl_Net_isRequest.e0 {P : Prop} (h : P := by
 go_enter Try.func79, Try.ntmps79
 go_wp2_with (first | (go_at_call 69; (with_reducible refine (impl_Net_wanted.calls k g s0 s1 s2 s3 s4 s5 s6 s7 s8 s9 s10 a1 a2 _ _ ?side1 A1.out).mono ?_); (case side1 => exact hNA.out.below HB.out); rintro e w_0 ⟨rfl, hb⟩; replace BK := Aside0.mk (bk_ BK.out hb); replace HB := Aside0.mk (bs_ HB.out hb); (try clear hb); obtain ⟨z0, z1, z2, z3, z4, z5, z6, z7, z8, z9, z10, f0, f1, f2, f3, f4, f5, f6, f7, f8, f9, f10⟩ := cz11_ BK.out) | (go_at_call 67; (with_reducible refine (impl_Net_hasRoom.calls k g s0 s1 s2 s3 s4 s5 s6 s7 s8 s9 s10 a1 a3 (Int.tmod a2 2) _ _ ?side1 A2_.out).mono ?_); (case side1 => exact hNA.out.below HB.out); rintro e w_0 ⟨rfl, hb⟩; replace BK := Aside0.mk (bk_ BK.out hb); replace HB := Aside0.mk (bs_ HB.out hb); (try clear hb); obtain ⟨z0, z1, z2, z3, z4, z5, z6, z7, z8, z9, z10, f0, f1, f2, f3, f4, f5, f6, f7, f8, f9, f10⟩ := cz11_ BK.out))
 go_ret
 exact ⟨fin_, bb_ HB.out⟩) : P := h
theorem impl_Net_isRequest.e1 {P : Prop} (h : P := by
 go_enter Try.func79, Try.ntmps79
 go_wp2_with (first | (go_at_call 69; (with_reducible refine (impl_Net_wanted.calls k g s0 s1 s2 s3 s4 s5 s6 s7 s8 s9 s10 a1 a2 _ _ ?side1 A1.out).mono ?_); (case side1 => exact hNA.out.below HB.out); rintro e w_0 ⟨rfl, hb⟩; replace BK := Aside0.mk (bk_ BK.out hb); replace HB := Aside0.mk (bs_ HB.out hb); (try clear hb); obtain ⟨z0, z1, z2, z3, z4, z5, z6, z7, z8, z9, z10, f0, f1, f2, f3, f4, f5, f6, f7, f8, f9, f10⟩ := cz11_ BK.out) | (go_at_call 67; (with_reducible refine (impl_Net_hasRoom.calls k g s0 s1 s2 s3 s4 s5 s6 s7 s8 s9 s10 a1 a3 (Int.tmod a2 2) _ _ ?side1 A2_.out).mono ?_); (case side1 => exact hNA.out.below HB.out); rintro e w_0 ⟨rfl, hb⟩; replace BK := Aside0.mk (bk_ BK.out hb); replace HB := Aside0.mk (bs_ HB.out hb); (try clear hb); obtain ⟨z0, z1, z2, z3, z4, z5, z6, z7, z8, z9, z10, f0, f1, f2, f3, f4, f5, f6, f7, f8, f9, f10⟩ := cz11_ BK.out; have hx := (HB.out.cell (World.block_lt_of_cell? w _ X1.out)).trans X1.out; have hxE := (HB.out.cell (World.block_lt_of_cell? w _ X2.out)).trans X2.out; have hh3 := (HB.out.cell (World.block_lt_of_cell? w _ X3.out)).trans X3.out))
 go_quiet ((go_at_call 109; (with_reducible refine (impl_BufferAt.calls _ _ _ _ _ A3_.out).mono ?_); rintro e w' ⟨rfl, ⟨nd, rfl⟩⟩; (first | exact ⟨rfl, _, World.drewN_drewN _ _ _⟩ | exact ⟨rfl, _, Eq.trans (World.drewN_drewN _ _ _) (congrArg (World.drewN _) (Nat.add_assoc _ _ _))⟩)))
 go_wp2
 go_ret
 exact ⟨by first | rfl | simp | (congr; done) | skip, bb_ HB.out⟩) : P := h
set_option maxHeartbeats 4000000 in
set_option maxRecDepth 100000 in
theorem impl_Net_isRequest.calls (k g : Nat) (s0 : Int) (s1 : Int) (s2 : List Int) (s3 : List Int) (s4 : List Int) (s5 : List (List S97)) (s6 : List Int) (s7 : List Int) (s8 : List (List S97)) (s9 : List (List S97)) (s10 : Int) (a1 a2 a3 : Int) (r : Bool) (w : World) (hN : NetAt w g s0 s1 s2 s3 s4 s5 s6 s7 s8 s9 s10) (h : impl_Net_isRequest.f k s0 s1 s2 s3 s4 s5 s6 a1 a2 a3 = some r) :
  Calls Try.prog 79 #[.pointer (some ⟨g, 0, none⟩), .int .i64 a1, .int .i64 a2, .int .i64 a3] w fun e w' => e = .returned (.bool r) ∧ Below w.heap.size w w' := by
 have hNA := Aside0.mk hN
 obtain ⟨A2, c2, A3, c3, A4, c4, A5, c5, A6, c6, A7, c7, A8, c8, A9, c9, hb, ⟨h2, k2⟩, ⟨h3, k3⟩, ⟨h4, k4⟩, ⟨h5, k5⟩, ⟨h6, k6⟩, ⟨h7, k7⟩, ⟨h8, k8⟩, ⟨h9, k9⟩⟩ := hN
 have BK := Aside0.mk hb
 have HR5 := Aside0.mk h5
 have HC5 := Aside0.mk k5
 have HR6 := Aside0.mk h6
 have HC6 := Aside0.mk k6
 clear hb h2 k2 h3 k3 h4 k4 h5 k5 h6 k6 h7 k7 h8 k8 h9 k9
 have HB := Aside0.mk (Below.refl w.heap.size w)
 obtain ⟨z0, z1, z2, z3, z4, z5, z6, z7, z8, z9, z10, f0, f1, f2, f3, f4, f5, f6, f7, f8, f9, f10⟩ := cz11_ BK.out
 unfold impl_Net_isRequest.f at h
 by_cases q1 : a3 < 0
 ·rw [if_pos q1] at h
  obtain rfl := Option.some.inj h
  clear h
  have q1b : decide (a3 < 0) = true := decide_eq_true q1
  clear q1
  exact impl_Net_isRequest.e0
 ·rw [if_neg q1] at h
  have q1b : decide (a3 < 0) = false := decide_eq_false q1
  clear q1
  obtain ⟨p, A10, h⟩ := Option.bind_eq_some_iff.1 h
  have A1 := Aside0.mk A10
  clear A10
  by_cases q2 : p = a3
  ·rw [if_pos q2] at h
   have q2b : (p != a3) = false := bne_eq_false_iff_eq.mpr q2
   clear q2
   obtain ⟨b, A20, h⟩ := Option.bind_eq_some_iff.1 h
   have A2_ := Aside0.mk A20
   clear A20
   cases b with
   | false =>
    have h1 : some false = some r := h
    obtain rfl := Option.some.inj h1
    clear h h1
    exact impl_Net_isRequest.e0
   | true =>
    rw [if_pos rfl] at h
    obtain ⟨t, A30, h⟩ := Option.bind_eq_some_iff.1 h
    have A3_ := Aside0.mk A30
    clear A30
    obtain ⟨ix, hix⟩ : ∃ j_ : Int, (wrap64 ((wrap64 (10 * a1)) + a2)) = j_ := ⟨_, rfl⟩
    have hixw : (IntKind.i64.wrap ((wrap64 (10 * a1)) + a2)) = ix := (i64_w _).trans hix
    rw [hix] at h
    by_cases q3 : 0 ≤ t
    ·rw [if_pos q3] at h
     by_cases q4 : t < (s6.length : Int)
     ·rw [if_pos q4] at h
      by_cases q5 : 0 ≤ ix
      ·rw [if_pos q5] at h
       by_cases q6 : ix < (s5.length : Int)
       ·rw [if_pos q6] at h
        by_cases q7 : (0 : Int) < ((rd_L5 s5 ix).length : Int)
        ·rw [if_pos q7] at h
         obtain ⟨at_, ea, hx⟩ := Kd.at_int HR6.out t q3 q4
         cases ea
         obtain ⟨ad, AE, cE, eE, hxE, hlE, hiE⟩ := at_L5 HR5.out ix q5 q6
         cases eE
         obtain ⟨ah, eh, hh0, hh1, hh2, hh3, hh4⟩ := headF hiE q7
         cases eh
         have X1 := Aside0.mk hx
         have X2 := Aside0.mk hxE
         have X3 := Aside0.mk hh3
         clear hx hxE hlE hiE hh0 hh1 hh2 hh3 hh4
         have q3b : decide (0 ≤ t) = true := decide_eq_true q3
         have q4b : decide (t < (s6.length : Int)) = true := decide_eq_true q4
         have q5b : decide (0 ≤ ix) = true := decide_eq_true q5
         have q6b : decide (ix < (s5.length : Int)) = true := decide_eq_true q6
         have q7b : decide ((0 : Int) < ((rd_L5 s5 ix).length : Int)) = true := decide_eq_true q7
         have q7n : (0 < (rd_L5 s5 ix).length) = True := eq_true (by omega)
         replace q3 := eq_true q3
         replace q4 := eq_true q4
         replace q5 := eq_true q5
         replace q6 := eq_true q6
         clear q7
         by_cases q8 : (rd_T97 (rd_L5 s5 ix) 0).f3 = true
         ·rw [if_pos q8] at h
          rw [q8] at X3
          clear q8
          obtain rfl := Option.some.inj h
          clear h
          exact impl_Net_isRequest.e1
         ·rw [if_neg q8] at h
          have q8 := Bool.eq_false_iff.mpr q8
          rw [q8] at X3
          clear q8
          obtain rfl := Option.some.inj h
          clear h
          exact impl_Net_isRequest.e1
        ·rw [if_neg q7] at h
         exact absurd h (by simp)
       ·rw [if_neg q6] at h
        exact absurd h (by simp)
      ·rw [if_neg q5] at h
       exact absurd h (by simp)
     ·rw [if_neg q4] at h
      exact absurd h (by simp)
    ·rw [if_neg q3] at h
     exact absurd h (by simp)
  ·rw [if_neg q2] at h
   have q2b : (p != a3) = true := bne_iff_ne.mpr q2
   clear q2
   obtain rfl := Option.some.inj h
   clear h
   exact impl_Net_isRequest.e0

/-! ### impl_IsRequest: function 39 -/
def impl_IsRequest.f (k : Nat) (a0_0 : Int) (a0_1 : Int) (l0_2 : List Int) (l0_3 : List Int) (l0_4 : List Int) (l0_5 : List (List S97)) (l0_6 : List Int) (l0_7 : List Int) (l0_8 : List (List S97)) (l0_9 : List (List S97)) (a0_10 : Int) (a1 a2 a3 : Int) : Option Bool := (impl_isPlace.f k a0_0 a0_1 l0_2 l0_3 l0_4 l0_5 l0_6 l0_7 l0_8 l0_9 a0_10 a1).bind fun b1 => (if b1 = true then ((impl_inside.f a2 0 9).bind fun b2 => (if b2 = true then (impl_Net_isRequest.f k a0_0 a0_1 l0_2 l0_3 l0_4 l0_5 l0_6 a1 a2 a3) else (some false))) else (some false))
theorem impl_IsRequest.mono (a0_0 : Int) (a0_1 : Int) (l0_2 : List Int) (l0_3 : List Int) (l0_4 : List Int) (l0_5 : List (List S97)) (l0_6 : List Int) (l0_7 : List Int) (l0_8 : List (List S97)) (l0_9 : List (List S97)) (a0_10 : Int) (a1 a2 a3 : Int) : ∀ k, LeO (impl_IsRequest.f k a0_0 a0_1 l0_2 l0_3 l0_4 l0_5 l0_6 l0_7 l0_8 l0_9 a0_10 a1 a2 a3) (impl_IsRequest.f (k + 1) a0_0 a0_1 l0_2 l0_3 l0_4 l0_5 l0_6 l0_7 l0_8 l0_9 a0_10 a1 a2 a3) := by
 intro k
 unfold impl_IsRequest.f
 exact LeO.bind (impl_isPlace.mono _ _ _ _ _ _ _ _ _ _ _ _  _) (fun _ => LeO.ite (LeO.bind (LeO.refl _) (fun _ => LeO.ite (impl_Net_isRequest.mono _ _ _ _ _ _ _ _ _ _ _) (LeO.refl _))) (LeO.refl _))
theorem impl_IsRequest.lf {P : Prop} (h : P := by
 go_enter Try.func39, Try.ntmps39
 go_wp2_with (first | ((with_reducible refine gate_dst (N := 4) rfl ?_); refine box_event ?hg (N := 4) ?hd (cs := #[.int .i64 a0_0, .int .i64 a0_1, .slice A0_2 l0_2.length c0_2, .slice A0_3 l0_3.length c0_3, .slice A0_4 l0_4.length c0_4, .slice A0_5 l0_5.length c0_5, .slice A0_6 l0_6.length c0_6, .slice A0_7 l0_7.length c0_7, .slice A0_8 l0_8.length c0_8, .slice A0_9 l0_9.length c0_9, .int .i64 a0_10]) (t := 44) ?hr ?_; (case hd => rfl); (case hg => rfl); (case hr => first | (go_simp; done) | (go_simp; rfl)); intro gb hg w1 hbox hb; have BK := Aside0.mk hbox; replace HB := Aside0.mk (bs_ HB.out hb); clear hb hbox hg; obtain ⟨z0, z1, z2, z3, z4, z5, z6, z7, z8, z9, z10, f0, f1, f2, f3, f4, f5, f6, f7, f8, f9, f10⟩ := cz11_ BK.out) | (go_at_call 65; (with_reducible refine (impl_isPlace.calls k a0_0 a0_1 _ _ l0_2 _ _ l0_3 _ _ l0_4 _ _ l0_5 _ _ l0_6 _ _ l0_7 _ _ l0_8 _ _ l0_9 a0_10 a1 _ _ ?side1 HC0_2.out ?side2 HC0_3.out ?side3 HC0_4.out ?side4 HC0_5.out ?side5 HC0_6.out ?side6 HC0_7.out ?side7 HC0_8.out ?side8 HC0_9.out A1.out).mono ?_); (case side1 => exact cb_ HR0_2.out HB.out); (case side2 => exact cb_ HR0_3.out HB.out); (case side3 => exact cb_ HR0_4.out HB.out); (case side4 => exact cb_ HR0_5.out HB.out); (case side5 => exact cb_ HR0_6.out HB.out); (case side6 => exact cb_ HR0_7.out HB.out); (case side7 => exact cb_ HR0_8.out HB.out); (case side8 => exact cb_ HR0_9.out HB.out); rintro e w1 ⟨rfl, hb⟩; replace BK := Aside0.mk (bk_ BK.out hb); replace HB := Aside0.mk (bs_ HB.out hb); (try clear hb); obtain ⟨z0, z1, z2, z3, z4, z5, z6, z7, z8, z9, z10, f0, f1, f2, f3, f4, f5, f6, f7, f8, f9, f10⟩ := cz11_ BK.out) | (go_at_call 66; (with_reducible refine (impl_inside.calls _ _ _ _ _ A2.out).mono ?_); rintro e w' ⟨rfl, ⟨nd, rfl⟩⟩) | (go_at_call 79; (with_reducible refine (impl_Net_isRequest.calls k gb a0_0 a0_1 l0_2 l0_3 l0_4 l0_5 l0_6 l0_7 l0_8 l0_9 a0_10 a1 a2 a3 _ _ ?side1 A3.out).mono ?_); (case side1 => exact ⟨A0_2, c0_2, A0_3, c0_3, A0_4, c0_4, A0_5, c0_5, A0_6, c0_6, A0_7, c0_7, A0_8, c0_8, A0_9, c0_9, bq_ BK.out, ⟨cb_ HR0_2.out HB.out, HC0_2.out⟩, ⟨cb_ HR0_3.out HB.out, HC0_3.out⟩, ⟨cb_ HR0_4.out HB.out, HC0_4.out⟩, ⟨cb_ HR0_5.out HB.out, HC0_5.out⟩, ⟨cb_ HR0_6.out HB.out, HC0_6.out⟩, ⟨cb_ HR0_7.out HB.out, HC0_7.out⟩, ⟨cb_ HR0_8.out HB.out, HC0_8.out⟩, ⟨cb_ HR0_9.out HB.out, HC0_9.out⟩⟩); rintro e w1 ⟨rfl, hb⟩; replace BK := Aside0.mk (bk_ BK.out hb); replace HB := Aside0.mk (bs_ HB.out hb); (try clear hb); obtain ⟨z0, z1, z2, z3, z4, z5, z6, z7, z8, z9, z10, f0, f1, f2, f3, f4, f5, f6, f7, f8, f9, f10⟩ := cz11_ BK.out))
 go_ret
 exact ⟨fin_, bb_ HB.out⟩) : P := h
set_option maxHeartbeats 4000000 in
set_option maxRecDepth 100000 in
theorem impl_IsRequest.calls (k : Nat) (a0_0 : Int) (a0_1 : Int) (A0_2 : Option Addr) (c0_2 : Nat) (l0_2 : List Int) (A0_3 : Option Addr) (c0_3 : Nat) (l0_3 : List Int) (A0_4 : Option Addr) (c0_4 : Nat) (l0_4 : List Int) (A0_5 : Option Addr) (c0_5 : Nat) (l0_5 : List (List S97)) (A0_6 : Option Addr) (c0_6 : Nat) (l0_6 : List Int) (A0_7 : Option Addr) (c0_7 : Nat) (l0_7 : List Int) (A0_8 : Option Addr) (c0_8 : Nat) (l0_8 : List (List S97)) (A0_9 : Option Addr) (c0_9 : Nat) (l0_9 : List (List S97)) (a0_10 : Int) (a1 : Int) (a2 : Int) (a3 : Int) (r : Bool) (w : World) (hr0_2 : Kd.C (Kd.int .i64) w A0_2 l0_2.length l0_2) (hc0_2 : l0_2.length ≤ c0_2) (hr0_3 : Kd.C (Kd.int .i64) w A0_3 l0_3.length l0_3) (hc0_3 : l0_3.length ≤ c0_3) (hr0_4 : Kd.C (Kd.int .i64) w A0_4 l0_4.length l0_4) (hc0_4 : l0_4.length ≤ c0_4) (hr0_5 : Kd.C (Kd.slice 97 k97) w A0_5 l0_5.length l0_5) (hc0_5 : l0_5.length ≤ c0_5) (hr0_6 : Kd.C (Kd.int .i64) w A0_6 l0_6.length l0_6) (hc0_6 : l0_6.length ≤ c0_6) (hr0_7 : Kd.C (Kd.int .i64) w A0_7 l0_7.length l0_7) (hc0_7 : l0_7.length ≤ c0_7) (hr0_8 : Kd.C (Kd.slice 97 k97) w A0_8 l0_8.length l0_8) (hc0_8 : l0_8.length ≤ c0_8) (hr0_9 : Kd.C (Kd.slice 97 k97) w A0_9 l0_9.length l0_9) (hc0_9 : l0_9.length ≤ c0_9) (h : impl_IsRequest.f k a0_0 a0_1 l0_2 l0_3 l0_4 l0_5 l0_6 l0_7 l0_8 l0_9 a0_10 a1 a2 a3 = some r) :
  Calls Try.prog 39 #[.agg #[.int .i64 a0_0, .int .i64 a0_1, .slice A0_2 l0_2.length c0_2, .slice A0_3 l0_3.length c0_3, .slice A0_4 l0_4.length c0_4, .slice A0_5 l0_5.length c0_5, .slice A0_6 l0_6.length c0_6, .slice A0_7 l0_7.length c0_7, .slice A0_8 l0_8.length c0_8, .slice A0_9 l0_9.length c0_9, .int .i64 a0_10], .int .i64 a1, .int .i64 a2, .int .i64 a3] w fun e w' => e = .returned (.bool r) ∧ Below w.heap.size w w' := by
 have HR0_2 := Aside0.mk hr0_2
 have HC0_2 := Aside0.mk hc0_2
 clear hr0_2 hc0_2
 have HR0_3 := Aside0.mk hr0_3
 have HC0_3 := Aside0.mk hc0_3
 clear hr0_3 hc0_3
 have HR0_4 := Aside0.mk hr0_4
 have HC0_4 := Aside0.mk hc0_4
 clear hr0_4 hc0_4
 have HR0_5 := Aside0.mk hr0_5
 have HC0_5 := Aside0.mk hc0_5
 clear hr0_5 hc0_5
 have HR0_6 := Aside0.mk hr0_6
 have HC0_6 := Aside0.mk hc0_6
 clear hr0_6 hc0_6
 have HR0_7 := Aside0.mk hr0_7
 have HC0_7 := Aside0.mk hc0_7
 clear hr0_7 hc0_7
 have HR0_8 := Aside0.mk hr0_8
 have HC0_8 := Aside0.mk hc0_8
 clear hr0_8 hc0_8
 have HR0_9 := Aside0.mk hr0_9
 have HC0_9 := Aside0.mk hc0_9
 clear hr0_9 hc0_9
 have HB := Aside0.mk (Below.refl w.heap.size w)
 unfold impl_IsRequest.f at h
 obtain ⟨b1, A10, h⟩ := Option.bind_eq_some_iff.1 h
 have A1 := Aside0.mk A10
 clear A10
 cases b1 with
 | false =>
  have h1 : some false = some r := h
  obtain rfl := Option.some.inj h1
  clear h h1
  exact impl_IsRequest.lf
 | true =>
  rw [if_pos rfl] at h
  obtain ⟨b2, A20, h⟩ := Option.bind_eq_some_iff.1 h
  have A2 := Aside0.mk A20
  clear A20
  cases b2 with
  | false =>
   have h1 : some false = some r := h
   obtain rfl := Option.some.inj h1
   clear h h1
   exact impl_IsRequest.lf
  | true =>
   rw [if_pos rfl] at h
   have A3 := Aside0.mk h
   clear h
   exact impl_IsRequest.lf

end Go.Proofs.Ythmfjdanmbcgbaa.PFnExactIsRequest
-- thin
