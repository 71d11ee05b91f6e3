/- Each function that the law comes to, as a plain function, with the proof that the call in the model gives what that function says (written by a program of this session out of the translation). No condition. -/
import Derived.Test.YtimdefbpoddoaaaPFnClassesx0
import Derived.Test.YtimdefbpoddoaaaPFnClassesx10
namespace Go.Proofs.Ytimdefbpoddoaaa.PFnClasses
open Go.RowKit Go.Proofs.YtimdefbpoddoaaaW.PrintWords Go.Proofs.YtimdefbpoddoaaaW.PrintLast Go.Proofs.YtimdefbpoddoaaaW.PrintMore
attribute [local go_sem] max2_int min2_int max_two min_two max_three min_three max_four min_four   -- for this text's walks alone
set_option linter.unusedVariables false
set_option linter.unusedSimpArgs false

/-! ### spec_l01Below: function 71 -/
def spec_l01Below.f (s0_0 : List Int) (s0_1 : Int) (s0_2 : Int) (a1 : Int) : Option (Int × Int × Int) := if a1 ≤ 0 then (some (0, s0_1, s0_2)) else (if a1 ≤ 256 then ((spec_l01Byte.f s0_0 s0_1 s0_2).bind fun bt303 => (if a1 = 0 then (none) else (some (Int.tmod bt303.1 a1, bt303.2.1, bt303.2.2)))) else ((spec_l01Byte.f s0_0 s0_1 s0_2).bind fun bt306 => ((spec_l01Byte.f s0_0 bt306.2.1 bt306.2.2).bind fun bt309 => ((spec_l01Byte.f s0_0 bt309.2.1 bt309.2.2).bind fun bt312 => ((spec_l01Byte.f s0_0 bt312.2.1 bt312.2.2).bind fun bt315 => (if a1 = 0 then (none) else (some (Int.tmod (wrap64 ((wrap64 ((wrap64 ((wrap64 (bt306.1 * 16777216)) + (wrap64 (bt309.1 * 65536)))) + (wrap64 (bt312.1 * 256)))) + bt315.1)) a1, bt315.2.1, bt315.2.2))))))))
theorem spec_l01Below.e0 {P : Prop} (h : P := by
 go_enter Try.func71, Try.ntmps71
 go_wp2_with (first | ((with_reducible refine gate_callee (f := 108) rfl ?_); refine gm_ (some 14) Try.func108 #[.pointer (some ⟨g, 0, none⟩)] rfl ?_; (with_reducible refine (spec_l01Byte.calls g s0_0 s0_1 s0_2 t303 t304 t305 w0 _ ?side1 ?side2 A5.out).mono ?_); (case side1 => repeat (first | (with_reducible first | exact HI0.out | apply IsS125.alloc | apply IsS125.drewN | apply IsS125.drew | apply IsS125.set_1 | apply IsS125.set_2) | exact HI0.out)); (case side2 => repeat (first | (with_reducible first | exact HB.out | apply below_alloc | apply pw_below_drewN | apply below_drew1 | refine below_set ?_ (IsS125.ge HI0.out)) | exact HB.out)); rintro e w_0 ⟨rfl, hi, hb, hk⟩; refine ⟨_, rfl, ?_⟩; replace HK := Aside0.mk (KeepBut.trans (by repeat (first | (with_reducible first | exact HK.out | apply KeepBut.set_ | apply keep_drewN | apply keep_drew | apply keep_alloc) | exact HK.out)) hk (.inl rfl)); replace HB := Aside0.mk (hb); replace HI0 := Aside0.mk (hi); (try clear hb)) | ((with_reducible refine gate_callee (f := 108) rfl ?_); refine gm_ (some 18) Try.func108 #[.pointer (some ⟨g, 0, none⟩)] rfl ?_; (with_reducible refine (spec_l01Byte.calls g s0_0 s0_1 s0_2 t306 t307 t308 w0 _ ?side1 ?side2 A8.out).mono ?_); (case side1 => repeat (first | (with_reducible first | exact HI0.out | apply IsS125.alloc | apply IsS125.drewN | apply IsS125.drew | apply IsS125.set_1 | apply IsS125.set_2) | exact HI0.out)); (case side2 => repeat (first | (with_reducible first | exact HB.out | apply below_alloc | apply pw_below_drewN | apply below_drew1 | refine below_set ?_ (IsS125.ge HI0.out)) | exact HB.out)); rintro e w_0 ⟨rfl, hi, hb, hk⟩; refine ⟨_, rfl, ?_⟩; replace HK := Aside0.mk (KeepBut.trans (by repeat (first | (with_reducible first | exact HK.out | apply KeepBut.set_ | apply keep_drewN | apply keep_drew | apply keep_alloc) | exact HK.out)) hk (.inl rfl)); replace HB := Aside0.mk (hb); replace HI0 := Aside0.mk (hi); (try clear hb)) | ((with_reducible refine gate_callee (f := 108) rfl ?_); refine gm_ (some 20) Try.func108 #[.pointer (some ⟨g, 0, none⟩)] rfl ?_; (with_reducible refine (spec_l01Byte.calls g s0_0 t307 t308 t309 t310 t311 w0 _ ?side1 ?side2 A9.out).mono ?_); (case side1 => repeat (first | (with_reducible first | exact HI0.out | apply IsS125.alloc | apply IsS125.drewN | apply IsS125.drew | apply IsS125.set_1 | apply IsS125.set_2) | exact HI0.out)); (case side2 => repeat (first | (with_reducible first | exact HB.out | apply below_alloc | apply pw_below_drewN | apply below_drew1 | refine below_set ?_ (IsS125.ge HI0.out)) | exact HB.out)); rintro e w_0 ⟨rfl, hi, hb, hk⟩; refine ⟨_, rfl, ?_⟩; replace HK := Aside0.mk (KeepBut.trans (by repeat (first | (with_reducible first | exact HK.out | apply KeepBut.set_ | apply keep_drewN | apply keep_drew | apply keep_alloc) | exact HK.out)) hk (.inl rfl)); replace HB := Aside0.mk (hb); replace HI0 := Aside0.mk (hi); (try clear hb)) | ((with_reducible refine gate_callee (f := 108) rfl ?_); refine gm_ (some 22) Try.func108 #[.pointer (some ⟨g, 0, none⟩)] rfl ?_; (with_reducible refine (spec_l01Byte.calls g s0_0 t310 t311 t312 t313 t314 w0 _ ?side1 ?side2 A10.out).mono ?_); (case side1 => repeat (first | (with_reducible first | exact HI0.out | apply IsS125.alloc | apply IsS125.drewN | apply IsS125.drew | apply IsS125.set_1 | apply IsS125.set_2) | exact HI0.out)); (case side2 => repeat (first | (with_reducible first | exact HB.out | apply below_alloc | apply pw_below_drewN | apply below_drew1 | refine below_set ?_ (IsS125.ge HI0.out)) | exact HB.out)); rintro e w_0 ⟨rfl, hi, hb, hk⟩; refine ⟨_, rfl, ?_⟩; replace HK := Aside0.mk (KeepBut.trans (by repeat (first | (with_reducible first | exact HK.out | apply KeepBut.set_ | apply keep_drewN | apply keep_drew | apply keep_alloc) | exact HK.out)) hk (.inl rfl)); replace HB := Aside0.mk (hb); replace HI0 := Aside0.mk (hi); (try clear hb)) | ((with_reducible refine gate_callee (f := 108) rfl ?_); refine gm_ (some 24) Try.func108 #[.pointer (some ⟨g, 0, none⟩)] rfl ?_; (with_reducible refine (spec_l01Byte.calls g s0_0 t313 t314 t315 t316 t317 w0 _ ?side1 ?side2 A11.out).mono ?_); (case side1 => repeat (first | (with_reducible first | exact HI0.out | apply IsS125.alloc | apply IsS125.drewN | apply IsS125.drew | apply IsS125.set_1 | apply IsS125.set_2) | exact HI0.out)); (case side2 => repeat (first | (with_reducible first | exact HB.out | apply below_alloc | apply pw_below_drewN | apply below_drew1 | refine below_set ?_ (IsS125.ge HI0.out)) | exact HB.out)); rintro e w_0 ⟨rfl, hi, hb, hk⟩; refine ⟨_, rfl, ?_⟩; replace HK := Aside0.mk (KeepBut.trans (by repeat (first | (with_reducible first | exact HK.out | apply KeepBut.set_ | apply keep_drewN | apply keep_drew | apply keep_alloc) | exact HK.out)) hk (.inl rfl)); replace HB := Aside0.mk (hb); replace HI0 := Aside0.mk (hi); (try clear hb)))
 go_ret
 exact ⟨fin_, by repeat (first | (with_reducible first | exact HI0.out | apply IsS125.alloc | apply IsS125.drewN | apply IsS125.drew | apply IsS125.set_1 | apply IsS125.set_2) | exact HI0.out), by repeat (first | (with_reducible first | exact HB.out | apply below_alloc | apply pw_below_drewN | apply below_drew1 | refine below_set ?_ (IsS125.ge HI0.out)) | exact HB.out), by repeat (first | (with_reducible first | exact HK.out | apply KeepBut.set_ | apply keep_drewN | apply keep_drew | apply keep_alloc) | exact HK.out)⟩) : P := h
set_option maxHeartbeats 8000000 in
set_option maxRecDepth 100000 in
theorem spec_l01Below.calls (g : Nat) (s0_0 : List Int) (s0_1 : Int) (s0_2 : Int) (a1 : Int) (r1 : Int) (r2 : Int) (r3 : Int) (w0 w : World) (hI : IsS125 w0 w g s0_0 s0_1 s0_2) (hB : Below w0.heap.size w0 w) (h : spec_l01Below.f s0_0 s0_1 s0_2 a1 = some (r1, r2, r3)) :
  Calls Try.prog 71 #[.pointer (some ⟨g, 0, none⟩), .int .i64 a1] w fun e w' => e = .returned (.int .i64 r1) ∧ IsS125 w0 w' g s0_0 r2 r3 ∧ Below w0.heap.size w0 w' ∧ KeepBut w w' g none := by
 have HI0 := Aside0.mk hI
 have HK := Aside0.mk (KeepBut.refl w g none)
 have HL := Aside0.mk hB.size
 clear hI
 have HW0 := Aside0.mk hB.size
 have HB := Aside0.mk hB
 clear hB
 have H : (if a1 ≤ 0 then (some (0, s0_1, s0_2)) else (if a1 ≤ 256 then ((spec_l01Byte.f s0_0 s0_1 s0_2).bind fun bt303 => (if a1 = 0 then (none) else (some (Int.tmod bt303.1 a1, bt303.2.1, bt303.2.2)))) else ((spec_l01Byte.f s0_0 s0_1 s0_2).bind fun bt306 => ((spec_l01Byte.f s0_0 bt306.2.1 bt306.2.2).bind fun bt309 => ((spec_l01Byte.f s0_0 bt309.2.1 bt309.2.2).bind fun bt312 => ((spec_l01Byte.f s0_0 bt312.2.1 bt312.2.2).bind fun bt315 => (if a1 = 0 then (none) else (some (Int.tmod (wrap64 ((wrap64 ((wrap64 ((wrap64 (bt306.1 * 16777216)) + (wrap64 (bt309.1 * 65536)))) + (wrap64 (bt312.1 * 256)))) + bt315.1)) a1, bt315.2.1, bt315.2.2))))))))) = some (r1, r2, r3) := h
 clear h
 by_cases c3 : a1 ≤ 0
 ·rw [if_pos c3] at H
  have c3b0 : decide (a1 ≤ 0) = true := decide_eq_true c3
  clear c3
  simp only [Option.some.injEq, Prod.mk.injEq] at H
  obtain ⟨rfl, rfl, rfl⟩ := H
  exact spec_l01Below.e0
 ·rw [if_neg c3] at H
  have c3b0 : decide (a1 ≤ 0) = false := decide_eq_false c3
  clear c3
  by_cases c4 : a1 ≤ 256
  ·rw [if_pos c4] at H
   have c4b0 : decide (a1 ≤ 256) = true := decide_eq_true c4
   clear c4
   replace H := Option.bind_eq_some_iff.mp H
   obtain ⟨⟨t303, t304, t305⟩, A50, H⟩ := H
   try dsimp only at H
   have A5 := Aside0.mk A50
   clear A50
   by_cases c6 : a1 = 0
   ·rw [if_pos c6] at H
    exact absurd H (by simp)
   ·rw [if_neg c6] at H
    have c6b0 : (a1 == 0) = false := beq_eq_false_iff_ne.mpr c6
    have c6b1 : (a1 != 0) = true := bne_iff_ne.mpr c6
    simp only [Option.some.injEq, Prod.mk.injEq] at H
    obtain ⟨rfl, rfl, rfl⟩ := H
    exact spec_l01Below.e0
  ·rw [if_neg c4] at H
   have c4b0 : decide (a1 ≤ 256) = false := decide_eq_false c4
   clear c4
   replace H := Option.bind_eq_some_iff.mp H
   obtain ⟨⟨t306, t307, t308⟩, A80, H⟩ := H
   try dsimp only at H
   have A8 := Aside0.mk A80
   clear A80
   replace H := Option.bind_eq_some_iff.mp H
   obtain ⟨⟨t309, t310, t311⟩, A90, H⟩ := H
   try dsimp only at H
   have A9 := Aside0.mk A90
   clear A90
   replace H := Option.bind_eq_some_iff.mp H
   obtain ⟨⟨t312, t313, t314⟩, A100, H⟩ := H
   try dsimp only at H
   have A10 := Aside0.mk A100
   clear A100
   replace H := Option.bind_eq_some_iff.mp H
   obtain ⟨⟨t315, t316, t317⟩, A110, H⟩ := H
   try dsimp only at H
   have A11 := Aside0.mk A110
   clear A110
   by_cases c12 : a1 = 0
   ·rw [if_pos c12] at H
    exact absurd H (by simp)
   ·rw [if_neg c12] at H
    have c12b0 : (a1 == 0) = false := beq_eq_false_iff_ne.mpr c12
    have c12b1 : (a1 != 0) = true := bne_iff_ne.mpr c12
    simp only [Option.some.injEq, Prod.mk.injEq] at H
    obtain ⟨rfl, rfl, rfl⟩ := H
    exact spec_l01Below.e0

/-! ### spec_l01In: function 61 -/
def spec_l01In.f (a0 : Int) (a1 : Int) (a2 : Int) : Option (Bool) := if a0 ≥ a1 then (some (decide (a0 ≤ a2))) else (some false)
theorem spec_l01In.e0 {P : Prop} (h : P := by
 go_enter Try.func61, Try.ntmps61
 go_wp2
 go_ret
 exact ⟨by first | rfl | (simp; done) | (simp [*]; done), by repeat (first | exact Drawn0.refl _ | apply Drawn0.step)⟩) : P := h
set_option maxHeartbeats 8000000 in
set_option maxRecDepth 100000 in
theorem spec_l01In.calls (a0 : Int) (a1 : Int) (a2 : Int) (r : Bool) (w : World) (h : spec_l01In.f a0 a1 a2 = some r) :
  Calls Try.prog 61 #[.int .i64 a0, .int .i64 a1, .int .i64 a2] w fun e w' => e = .returned (.bool r) ∧ Drawn0 w w' := by
 have H : (if a0 ≥ a1 then (some (decide (a0 ≤ a2))) else (some false)) = some r := h
 clear h
 by_cases c4 : a0 ≥ a1
 ·rw [if_pos c4] at H
  have c4b0 : decide (a1 ≤ a0) = true := decide_eq_true c4
  clear c4
  obtain rfl := Option.some.inj H
  exact spec_l01In.e0
 ·rw [if_neg c4] at H
  have c4b0 : decide (a1 ≤ a0) = false := decide_eq_false c4
  clear c4
  obtain rfl := Option.some.inj H
  exact spec_l01In.e0

/-! ### spec_GridOk: function 81 -/
def spec_GridOk.f (a0_0 : Int) (a0_1 : Int) : Option (Bool) := (spec_l01In.f a0_0 1 4).bind fun t319 => (if t319 = true then ((spec_l01In.f a0_1 1 4).bind fun t320 => (some t320)) else (some false))
theorem spec_GridOk.e0 {P : Prop} (h : P := by
 go_enter Try.func81, Try.ntmps81
 go_wp2_with (first | ((with_reducible refine gate_dst (N := 1) rfl ?_); refine box_event ?hg (N := 1) ?hd (cs := #[.int .i64 a0_0, .int .i64 a0_1]) (t := 42) ?hr ?_; (case hd => rfl); (case hg => rfl); (case hr => first | (go_simp; done) | (go_simp; rfl)); intro gb318 hg w_0 hbox hb; have BK318 := Aside0.mk (hbox); have GW318 := Aside0.mk ((by rw [hg]; exact (bz_ HB.out) : w.heap.size ≤ gb318)); have GE318 := Aside0.mk ((by rw [hg]; exact (bz_ HB.out) : w.heap.size ≤ gb318)); replace HB := Aside0.mk (bs_ HB.out hb); clear hb hbox hg; obtain ⟨hcz_0, hcz_1, hfz_0, hfz_1⟩ := cz2_ BK318.out) | ((with_reducible refine gate_callee (f := 61) rfl ?_); refine gm_ (some 5) Try.func61 #[.int .i64 a0_0, .int .i64 1, .int .i64 4] rfl ?_; (with_reducible refine (spec_l01In.calls a0_0 1 4 _ _ A2.out).mono ?_); rintro e w' ⟨rfl, ⟨nd, rfl⟩⟩; refine ⟨_, rfl, ?_⟩) | (go_at_call 61; (with_reducible refine (spec_l01In.calls a0_1 1 4 t320 _ A4.out).mono ?_); rintro e w' ⟨rfl, ⟨nd, rfl⟩⟩))
 go_ret
 exact ⟨fin_, bb_ HB.out⟩) : P := h
set_option maxHeartbeats 8000000 in
set_option maxRecDepth 100000 in
theorem spec_GridOk.calls (a0_0 : Int) (a0_1 : Int) (r : Bool) (w : World) (h : spec_GridOk.f a0_0 a0_1 = some r) :
  Calls Try.prog 81 #[.agg #[.int .i64 a0_0, .int .i64 a0_1]] w fun e w' => e = .returned (.bool r) ∧ Below w.heap.size w w' := by
 have hu42 := Try.underlying42
 have HB := Aside0.mk (Below.refl w.heap.size w)
 have H : ((spec_l01In.f a0_0 1 4).bind fun t319 => (if t319 = true then ((spec_l01In.f a0_1 1 4).bind fun t320 => (some t320)) else (some false))) = some r := h
 clear h
 replace H := Option.bind_eq_some_iff.mp H
 obtain ⟨t319, A20, H⟩ := H
 try dsimp only at H
 have A2 := Aside0.mk A20
 clear A20
 by_cases c3 : t319 = true
 ·subst c3
  rw [if_pos rfl] at H
  replace H := Option.bind_eq_some_iff.mp H
  obtain ⟨t320, A40, H⟩ := H
  try dsimp only at H
  have A4 := Aside0.mk A40
  clear A40
  obtain rfl := Option.some.inj H
  exact spec_GridOk.e0
 ·replace c3 := Bool.eq_false_iff.mpr c3
  subst c3
  rw [if_neg (show ¬ (false = true) by decide)] at H
  obtain rfl := Option.some.inj H
  exact spec_GridOk.e0

/-! ### spec_NodeCount: function 110 -/
def spec_NodeCount.f (a0_0 : Int) (a0_1 : Int) : Option (Int) := (spec_GridOk.f a0_0 a0_1).bind fun t322 => (if t322 = true then (some (wrap64 (a0_0 * a0_1))) else (some 0))
theorem spec_NodeCount.e0 {P : Prop} (h : P := by
 go_enter Try.func110, Try.ntmps110
 go_wp2_with (first | ((with_reducible refine gate_dst (N := 1) rfl ?_); refine box_event ?hg (N := 1) ?hd (cs := #[.int .i64 a0_0, .int .i64 a0_1]) (t := 42) ?hr ?_; (case hd => rfl); (case hg => rfl); (case hr => first | (go_simp; done) | (go_simp; rfl)); intro gb321 hg w_0 hbox hb; have BK321 := Aside0.mk (hbox); have GW321 := Aside0.mk ((by rw [hg]; exact (bz_ HB.out) : w.heap.size ≤ gb321)); have GE321 := Aside0.mk ((by rw [hg]; exact (bz_ HB.out) : w.heap.size ≤ gb321)); replace HB := Aside0.mk (bs_ HB.out hb); clear hb hbox hg; obtain ⟨hcz_0, hcz_1, hfz_0, hfz_1⟩ := cz2_ BK321.out) | ((with_reducible refine gate_callee (f := 81) rfl ?_); refine gm_ (some 4) Try.func81 #[.agg #[.int .i64 a0_0, .int .i64 a0_1]] rfl ?_; (with_reducible refine (spec_GridOk.calls a0_0 a0_1 _ _ A2.out).mono ?_); rintro e w_0 ⟨rfl, hb⟩; refine ⟨_, rfl, ?_⟩; replace BK321 := Aside0.mk (bk_ BK321.out hb); replace HB := Aside0.mk (bs_ HB.out hb); (try clear hb); obtain ⟨hcz_0, hcz_1, hfz_0, hfz_1⟩ := cz2_ BK321.out))
 go_ret
 exact ⟨fin_, bb_ HB.out⟩) : P := h
set_option maxHeartbeats 8000000 in
set_option maxRecDepth 100000 in
theorem spec_NodeCount.calls (a0_0 : Int) (a0_1 : Int) (r : Int) (w : World) (h : spec_NodeCount.f a0_0 a0_1 = some r) :
  Calls Try.prog 110 #[.agg #[.int .i64 a0_0, .int .i64 a0_1]] w fun e w' => e = .returned (.int .i64 r) ∧ Below w.heap.size w w' := by
 have hu42 := Try.underlying42
 have HB := Aside0.mk (Below.refl w.heap.size w)
 have H : ((spec_GridOk.f a0_0 a0_1).bind fun t322 => (if t322 = true then (some (wrap64 (a0_0 * a0_1))) else (some 0))) = some r := h
 clear h
 replace H := Option.bind_eq_some_iff.mp H
 obtain ⟨t322, A20, H⟩ := H
 try dsimp only at H
 have A2 := Aside0.mk A20
 clear A20
 by_cases c3 : t322 = true
 ·subst c3
  rw [if_pos rfl] at H
  obtain rfl := Option.some.inj H
  exact spec_NodeCount.e0
 ·replace c3 := Bool.eq_false_iff.mpr c3
  subst c3
  rw [if_neg (show ¬ (false = true) by decide)] at H
  obtain rfl := Option.some.inj H
  exact spec_NodeCount.e0

/-! ### spec_l05Column: function 148 -/
def spec_l05Column.f (a0 : Int) (a1 : Int) : Option (Int) := if a1 < a0 then (some 3) else (some 1)
theorem spec_l05Column.e0 {P : Prop} (h : P := by
 go_enter Try.func148, Try.ntmps148
 go_wp2
 go_ret
 exact ⟨by first | rfl | (simp; done) | (simp [*]; done), by repeat (first | exact Drawn0.refl _ | apply Drawn0.step)⟩) : P := h
set_option maxHeartbeats 8000000 in
set_option maxRecDepth 100000 in
theorem spec_l05Column.calls (a0 : Int) (a1 : Int) (r : Int) (w : World) (h : spec_l05Column.f a0 a1 = some r) :
  Calls Try.prog 148 #[.int .i64 a0, .int .i64 a1] w fun e w' => e = .returned (.int .i64 r) ∧ Drawn0 w w' := by
 have H : (if a1 < a0 then (some 3) else (some 1)) = some r := h
 clear h
 by_cases c3 : a1 < a0
 ·rw [if_pos c3] at H
  have c3b0 : decide (a1 < a0) = true := decide_eq_true c3
  clear c3
  obtain rfl := Option.some.inj H
  exact spec_l05Column.e0
 ·rw [if_neg c3] at H
  have c3b0 : decide (a1 < a0) = false := decide_eq_false c3
  clear c3
  obtain rfl := Option.some.inj H
  exact spec_l05Column.e0

/-! ### spec_l05Row: function 149 -/
def spec_l05Row.f (a0 : Int) (a1 : Int) : Option (Int) := if a1 < a0 then (some 0) else (some 2)
theorem spec_l05Row.e0 {P : Prop} (h : P := by
 go_enter Try.func149, Try.ntmps149
 go_wp2
 go_ret
 exact ⟨by first | rfl | (simp; done) | (simp [*]; done), by repeat (first | exact Drawn0.refl _ | apply Drawn0.step)⟩) : P := h
set_option maxHeartbeats 8000000 in
set_option maxRecDepth 100000 in
theorem spec_l05Row.calls (a0 : Int) (a1 : Int) (r : Int) (w : World) (h : spec_l05Row.f a0 a1 = some r) :
  Calls Try.prog 149 #[.int .i64 a0, .int .i64 a1] w fun e w' => e = .returned (.int .i64 r) ∧ Drawn0 w w' := by
 have H : (if a1 < a0 then (some 0) else (some 2)) = some r := h
 clear h
 by_cases c3 : a1 < a0
 ·rw [if_pos c3] at H
  have c3b0 : decide (a1 < a0) = true := decide_eq_true c3
  clear c3
  obtain rfl := Option.some.inj H
  exact spec_l05Row.e0
 ·rw [if_neg c3] at H
  have c3b0 : decide (a1 < a0) = false := decide_eq_false c3
  clear c3
  obtain rfl := Option.some.inj H
  exact spec_l05Row.e0

/-! ### spec_l05Port: function 121 -/
mutual
def spec_l05Port.j0 : Nat → Int → Int → Int → Int → Int → Option (Int)
 | 0, _, _, _, _, _ => none
 | k + 1, x1, x9, x10, x11, x12 => if x1 = 2 then (spec_l05Port.j1 k x9 x10 x11 x12 (x10 == x12)) else (if x1 = 3 then (if x11 < x9 then (spec_l05Port.j1 k x9 x10 x11 x12 true) else (spec_l05Port.j1 k x9 x10 x11 x12 (x10 == x12))) else (spec_l05Port.j1 k x9 x10 x11 x12 (x9 != x11)))
def spec_l05Port.j1 : Nat → Int → Int → Int → Int → Bool → Option (Int)
 | 0, _, _, _, _, _ => none
 | k + 1, x9, x10, x11, x12, x13 => if x13 = true then ((spec_l05Column.f x9 x11).bind fun t324 => (some t324)) else ((spec_l05Row.f x10 x12).bind fun t325 => (some t325))
end
def spec_l05Port.f (k : Nat) (a0_0 : Int) (a0_1 : Int) (a1 : Int) (a2 : Int) (a3 : Int) : Option (Int) := if a0_0 = 0 then (none) else (if a2 = a3 then (some 4) else (if a1 = 4 then (spec_l05Port.j0 k (wrap64 (1 + (Int.tmod a3 2))) (Int.tmod a2 a0_0) (wrap64 (Int.tdiv a2 a0_0)) (Int.tmod a3 a0_0) (wrap64 (Int.tdiv a3 a0_0))) else (spec_l05Port.j0 k a1 (Int.tmod a2 a0_0) (wrap64 (Int.tdiv a2 a0_0)) (Int.tmod a3 a0_0) (wrap64 (Int.tdiv a3 a0_0)))))
theorem spec_l05Port.mono_l : ∀ k, (∀ y0 y1 y2 y3 y4, LeO (spec_l05Port.j0 k y0 y1 y2 y3 y4) (spec_l05Port.j0 (k + 1) y0 y1 y2 y3 y4)) ∧ (∀ y0 y1 y2 y3 y4, LeO (spec_l05Port.j1 k y0 y1 y2 y3 y4) (spec_l05Port.j1 (k + 1) y0 y1 y2 y3 y4))
 | 0 => ⟨fun _ _ _ _ _ r h => by simp [spec_l05Port.j0] at h, fun _ _ _ _ _ r h => by simp [spec_l05Port.j1] at h⟩
 | k + 1 => by
  obtain ⟨ih0, ih1⟩ := spec_l05Port.mono_l k
  refine ⟨?_, ?_⟩
  ·intro y0 y1 y2 y3 y4
   unfold spec_l05Port.j0
   repeat' first
   | (with_reducible exact ih0 _ _ _ _ _)
   | (with_reducible exact ih1 _ _ _ _ _)
   | (with_reducible exact LeO.refl _)
   | (with_reducible exact LeO.none _)
   | (with_reducible refine LeO.ite ?_ ?_)
   | (with_reducible refine LeO.bind ?_ (fun _ => ?_))
   | exact ih0 _ _ _ _ _
   | exact ih1 _ _ _ _ _
   | exact LeO.none _
   | refine LeO.ite ?_ ?_
   | refine LeO.bind ?_ (fun _ => ?_)
  ·intro y0 y1 y2 y3 y4
   unfold spec_l05Port.j1
   repeat' first
   | (with_reducible exact ih0 _ _ _ _ _)
   | (with_reducible exact ih1 _ _ _ _ _)
   | (with_reducible exact LeO.refl _)
   | (with_reducible exact LeO.none _)
   | (with_reducible refine LeO.ite ?_ ?_)
   | (with_reducible refine LeO.bind ?_ (fun _ => ?_))
   | exact ih0 _ _ _ _ _
   | exact ih1 _ _ _ _ _
   | exact LeO.none _
   | refine LeO.ite ?_ ?_
   | refine LeO.bind ?_ (fun _ => ?_)
theorem spec_l05Port.mono : ∀ a0 a1 a2 a3 a4 k, LeO (spec_l05Port.f k a0 a1 a2 a3 a4) (spec_l05Port.f (k + 1) a0 a1 a2 a3 a4) := by
 intro a0 a1 a2 a3 a4 k
 obtain ⟨ih0, ih1⟩ := spec_l05Port.mono_l k
 unfold spec_l05Port.f
 repeat' first
   | (with_reducible exact ih0 _ _ _ _ _)
   | (with_reducible exact ih1 _ _ _ _ _)
   | (with_reducible exact LeO.refl _)
   | (with_reducible exact LeO.none _)
   | (with_reducible refine LeO.ite ?_ ?_)
   | (with_reducible refine LeO.bind ?_ (fun _ => ?_))
   | exact ih0 _ _ _ _ _
   | exact ih1 _ _ _ _ _
   | exact LeO.none _
   | refine LeO.ite ?_ ?_
   | refine LeO.bind ?_ (fun _ => ?_)
theorem spec_l05Port.e0 {P : Prop} (h : P := by
 go_wp2
 go_meet
 case rel => exact ⟨_, (((wrap64 (Int.tdiv a2 a0_0)) == (wrap64 (Int.tdiv a3 a0_0)))), ef_, H', ⟨by have := HJ8.out; first | omega | exact Nat.le_refl _⟩, ⟨bq_ BK323.out⟩, ⟨bb_ HB.out⟩⟩) : P := h
set_option maxHeartbeats 8000000 in
set_option maxRecDepth 100000 in
theorem spec_l05Port.calls (k : Nat) (a0_0 : Int) (a0_1 : Int) (a1 : Int) (a2 : Int) (a3 : Int) (r : Int) (w : World) (h : spec_l05Port.f k a0_0 a0_1 a1 a2 a3 = some r) :
  Calls Try.prog 121 #[.agg #[.int .i64 a0_0, .int .i64 a0_1], .int .i64 a1, .int .i64 a2, .int .i64 a3] w fun e w' => e = .returned (.int .i64 r) ∧ Below w.heap.size w w' := by
 have hu42 := Try.underlying42
 have HB := Aside0.mk (Below.refl w.heap.size w)
 have H : (if a0_0 = 0 then (none) else (if a2 = a3 then (some 4) else (if a1 = 4 then (spec_l05Port.j0 k (wrap64 (1 + (Int.tmod a3 2))) (Int.tmod a2 a0_0) (wrap64 (Int.tdiv a2 a0_0)) (Int.tmod a3 a0_0) (wrap64 (Int.tdiv a3 a0_0))) else (spec_l05Port.j0 k a1 (Int.tmod a2 a0_0) (wrap64 (Int.tdiv a2 a0_0)) (Int.tmod a3 a0_0) (wrap64 (Int.tdiv a3 a0_0)))))) = some r := h
 clear h
 by_cases c5 : a0_0 = 0
 ·rw [if_pos c5] at H
  exact absurd H (by simp)
 ·rw [if_neg c5] at H
  have c5b0 : (a0_0 == 0) = false := beq_eq_false_iff_ne.mpr c5
  have c5b1 : (a0_0 != 0) = true := bne_iff_ne.mpr c5
  by_cases c6 : a2 = a3
  ·rw [if_pos c6] at H
   have c6b0 : (a2 == a3) = true := beq_iff_eq.mpr c6
   have c6b1 : (a2 != a3) = false := bne_eq_false_iff_eq.mpr c6
   clear c6
   obtain rfl := Option.some.inj H
   go_enter Try.func121, Try.ntmps121
   go_wp2_with (first | ((with_reducible refine gate_dst (N := 4) rfl ?_); refine box_event ?hg (N := 4) ?hd (cs := #[.int .i64 a0_0, .int .i64 a0_1]) (t := 42) ?hr ?_; (case hd => rfl); (case hg => rfl); (case hr => first | (go_simp; done) | (go_simp; rfl)); intro gb323 hg w7 hbox hb; have BK323 := Aside0.mk (hbox); have GW323 := Aside0.mk ((by rw [hg]; exact (bz_ HB.out) : w.heap.size ≤ gb323)); have GE323 := Aside0.mk ((by rw [hg]; exact (bz_ HB.out) : w.heap.size ≤ gb323)); replace HB := Aside0.mk (bs_ HB.out hb); clear hb hbox hg; obtain ⟨hcz8_0, hcz8_1, hfz8_0, hfz8_1⟩ := cz2_ BK323.out))
   go_ret
   exact ⟨fin_, bb_ HB.out⟩
  ·rw [if_neg c6] at H
   have c6b0 : (a2 == a3) = false := beq_eq_false_iff_ne.mpr c6
   have c6b1 : (a2 != a3) = true := bne_iff_ne.mpr c6
   have HC9 := Aside0.mk H
   clear H
   go_enter Try.func121, Try.ntmps121
   go_upto_if 34 with (first | ((with_reducible refine gate_dst (N := 4) rfl ?_); refine box_event ?hg (N := 4) ?hd (cs := #[.int .i64 a0_0, .int .i64 a0_1]) (t := 42) ?hr ?_; (case hd => rfl); (case hg => rfl); (case hr => first | (go_simp; done) | (go_simp; rfl)); intro gb323 hg w10 hbox hb; have BK323 := Aside0.mk (hbox); have GW323 := Aside0.mk ((by rw [hg]; exact (bz_ HB.out) : w.heap.size ≤ gb323)); have GE323 := Aside0.mk ((by rw [hg]; exact (bz_ HB.out) : w.heap.size ≤ gb323)); replace HB := Aside0.mk (bs_ HB.out hb); clear hb hbox hg; obtain ⟨hcz11_0, hcz11_1, hfz11_0, hfz11_1⟩ := cz2_ BK323.out))
   (try simp only [Act.put, List.setIfInBounds_toArray, List.set_cons_zero, List.set_cons_succ])
   go_cut [1] (fun v1 wc => ∃ (kq : Nat) (x1_8 : Int), v1 = .int .i64 x1_8 ∧ Aside0 (spec_l05Port.j0 kq x1_8 (Int.tmod a2 a0_0) (wrap64 (Int.tdiv a2 a0_0)) (Int.tmod a3 a0_0) (wrap64 (Int.tdiv a3 a0_0)) = some r) ∧ Aside0 (kq ≤ k) ∧ Aside0 (wc.heap[gb323]? = some (.cells #[.int .i64 a0_0, .int .i64 a0_1] 42 (0, 0))) ∧ Aside0 (Below w.heap.size w wc))
   case first =>
    have H := HC9.out
    clear HC9
    by_cases c12 : a1 = 4
    ·rw [if_pos c12] at H
     have c12b0 : (a1 == 4) = true := beq_iff_eq.mpr c12
     have c12b1 : (a1 != 4) = false := bne_eq_false_iff_eq.mpr c12
     clear c12
     (first | rw [c12b0] | (simp only [i64_w, i32_w]; rw [c12b0]) | skip)
     have H' := Aside0.mk H
     clear H
     go_wp2
     go_meet
     case rel => exact ⟨_, (wrap64 (1 + (Int.tmod a3 2))), ef_, H', ⟨kq_⟩, ⟨bq_ BK323.out⟩, ⟨bb_ HB.out⟩⟩
    ·rw [if_neg c12] at H
     have c12b0 : (a1 == 4) = false := beq_eq_false_iff_ne.mpr c12
     have c12b1 : (a1 != 4) = true := bne_iff_ne.mpr c12
     (first | rw [c12b0] | (simp only [i64_w, i32_w]; rw [c12b0]) | skip)
     have H' := Aside0.mk H
     clear H
     go_wp2
     go_meet
     case rel => exact ⟨_, (a1), ef_, H', ⟨kq_⟩, ⟨bq_ BK323.out⟩, ⟨bb_ HB.out⟩⟩
   case rest =>
    clear HC9
    try clear c5
    try clear c5b0
    try clear c5b1
    try clear c6
    try clear c6b0
    try clear c6b1
    try clear hcz11_0 hcz11_1 hfz11_0 hfz11_1
    obtain ⟨kq, x1_8, rfl, HA, HJ8, BK323, HB⟩ := hcut
    cases kq with
    | zero => exact absurd HA.out (by simp [spec_l05Port.j0])
    | succ kj8 =>
     have H := HA.out
     clear HA
     simp only [spec_l05Port.j0] at H
     have HC13 := Aside0.mk H
     clear H
     go_upto_block 0 with (fail)
     go_cut [13] (fun v13 wc => ∃ (kq : Nat) (x13_12 : Bool), v13 = .bool x13_12 ∧ Aside0 (spec_l05Port.j1 kq (Int.tmod a2 a0_0) (wrap64 (Int.tdiv a2 a0_0)) (Int.tmod a3 a0_0) (wrap64 (Int.tdiv a3 a0_0)) x13_12 = some r) ∧ Aside0 (kq ≤ kj8) ∧ Aside0 (wc.heap[gb323]? = some (.cells #[.int .i64 a0_0, .int .i64 a0_1] 42 (0, 0))) ∧ Aside0 (Below w.heap.size w wc))
     case first =>
      have H := HC13.out
      clear HC13
      by_cases c14 : x1_8 = 2
      ·rw [if_pos c14] at H
       have c14b0 : (x1_8 == 2) = true := beq_iff_eq.mpr c14
       have c14b1 : (x1_8 != 2) = false := bne_eq_false_iff_eq.mpr c14
       clear c14
       (first | rw [c14b0] | (simp only [i64_w, i32_w]; rw [c14b0]) | skip)
       have H' := Aside0.mk H
       clear H
       exact spec_l05Port.e0
      ·rw [if_neg c14] at H
       have c14b0 : (x1_8 == 2) = false := beq_eq_false_iff_ne.mpr c14
       have c14b1 : (x1_8 != 2) = true := bne_iff_ne.mpr c14
       (first | rw [c14b0] | (simp only [i64_w, i32_w]; rw [c14b0]) | skip)
       by_cases c15 : x1_8 = 3
       ·rw [if_pos c15] at H
        have c15b0 : (x1_8 == 3) = true := beq_iff_eq.mpr c15
        have c15b1 : (x1_8 != 3) = false := bne_eq_false_iff_eq.mpr c15
        clear c15
        by_cases c16 : (Int.tmod a3 a0_0) < (Int.tmod a2 a0_0)
        ·rw [if_pos c16] at H
         have c16b0 : decide ((Int.tmod a3 a0_0) < (Int.tmod a2 a0_0)) = true := decide_eq_true c16
         clear c16
         have H' := Aside0.mk H
         clear H
         go_wp2
         go_meet
         case rel => exact ⟨_, (true), ef_, H', ⟨by have := HJ8.out; first | omega | exact Nat.le_refl _⟩, ⟨bq_ BK323.out⟩, ⟨bb_ HB.out⟩⟩
        ·rw [if_neg c16] at H
         have c16b0 : decide ((Int.tmod a3 a0_0) < (Int.tmod a2 a0_0)) = false := decide_eq_false c16
         clear c16
         have H' := Aside0.mk H
         clear H
         exact spec_l05Port.e0
       ·rw [if_neg c15] at H
        have c15b0 : (x1_8 == 3) = false := beq_eq_false_iff_ne.mpr c15
        have c15b1 : (x1_8 != 3) = true := bne_iff_ne.mpr c15
        have H' := Aside0.mk H
        clear H
        go_wp2
        go_meet
        case rel => exact ⟨_, (((Int.tmod a2 a0_0) != (Int.tmod a3 a0_0))), ef_, H', ⟨by have := HJ8.out; first | omega | exact Nat.le_refl _⟩, ⟨bq_ BK323.out⟩, ⟨bb_ HB.out⟩⟩
     case rest =>
      clear HC13
      try clear c5
      try clear c5b0
      try clear c5b1
      try clear c6
      try clear c6b0
      try clear c6b1
      try clear hcz11_0 hcz11_1 hfz11_0 hfz11_1
      obtain ⟨kq, x13_12, rfl, HA, HJ12, BK323, HB⟩ := hcut
      cases kq with
      | zero => exact absurd HA.out (by simp [spec_l05Port.j1])
      | succ kj12 =>
       have H := HA.out
       clear HA
       simp only [spec_l05Port.j1] at H
       by_cases c17 : x13_12 = true
       ·subst c17
        rw [if_pos rfl] at H
        replace H := Option.bind_eq_some_iff.mp H
        obtain ⟨t324, A180, H⟩ := H
        try dsimp only at H
        have A18 := Aside0.mk A180
        clear A180
        obtain rfl := Option.some.inj H
        go_wp2_with (first | ((with_reducible refine gate_callee (f := 148) rfl ?_); refine gm_ (some 60) Try.func148 #[.int .i64 (Int.tmod a2 a0_0), .int .i64 (Int.tmod a3 a0_0)] rfl ?_; (with_reducible refine (spec_l05Column.calls (Int.tmod a2 a0_0) (Int.tmod a3 a0_0) t324 _ A18.out).mono ?_); rintro e w' ⟨rfl, ⟨nd, rfl⟩⟩; refine ⟨_, rfl, ?_⟩))
        go_ret
        exact ⟨fin_, bb_ HB.out⟩
       ·replace c17 := Bool.eq_false_iff.mpr c17
        subst c17
        rw [if_neg (show ¬ (false = true) by decide)] at H
        replace H := Option.bind_eq_some_iff.mp H
        obtain ⟨t325, A190, H⟩ := H
        try dsimp only at H
        have A19 := Aside0.mk A190
        clear A190
        obtain rfl := Option.some.inj H
        go_wp2_with (first | ((with_reducible refine gate_callee (f := 149) rfl ?_); refine gm_ (some 63) Try.func149 #[.int .i64 (wrap64 (Int.tdiv a2 a0_0)), .int .i64 (wrap64 (Int.tdiv a3 a0_0))] rfl ?_; (with_reducible refine (spec_l05Row.calls (wrap64 (Int.tdiv a2 a0_0)) (wrap64 (Int.tdiv a3 a0_0)) t325 _ A19.out).mono ?_); rintro e w' ⟨rfl, ⟨nd, rfl⟩⟩; refine ⟨_, rfl, ?_⟩))
        go_ret
        exact ⟨fin_, bb_ HB.out⟩

/-! ### spec_l05Make: function 82 -/
def spec_l05Make.l0 : Nat → Int → Int → Int → Int → Int → List Int → Option (List Int)
 | 0, _, _, _, _, _, _ => none
 | k + 1, x1, x6, x7, x327000, x327001, x329000 => if x7 < (wrap64 (x6 * x6)) then (if x6 = 0 then (none) else ((spec_l05Port.f k x327000 x327001 x1 (wrap64 (Int.tdiv x7 x6)) (Int.tmod x7 x6)).bind fun t330 => (if x329000.length < 17592186044416 then (spec_l05Make.l0 k x1 x6 (wrap64 (x7 + 1)) x327000 x327001 (x329000 ++ [t330])) else (none)))) else (some x329000)
def spec_l05Make.f (k : Nat) (a0_0 : Int) (a0_1 : Int) (a1 : Int) : Option (List Int) := (spec_NodeCount.f a0_0 a0_1).bind fun t329 => (spec_l05Make.l0 k a1 t329 0 a0_0 a0_1 ([] : List Int))
theorem spec_l05Make.mono_l : ∀ k, (∀ y0 y1 y2 y3 y4 y5, LeO (spec_l05Make.l0 k y0 y1 y2 y3 y4 y5) (spec_l05Make.l0 (k + 1) y0 y1 y2 y3 y4 y5))
 | 0 => fun _ _ _ _ _ _ r h => by simp [spec_l05Make.l0] at h
 | k + 1 => by
  have ih0 := spec_l05Make.mono_l k
  ·intro y0 y1 y2 y3 y4 y5
   unfold spec_l05Make.l0
   repeat' first
   | (with_reducible exact ih0 _ _ _ _ _ _)
   | (with_reducible exact spec_l05Port.mono _ _ _ _ _ _)
   | (with_reducible exact LeO.refl _)
   | (with_reducible exact LeO.none _)
   | (with_reducible refine LeO.ite ?_ ?_)
   | (with_reducible refine LeO.bind ?_ (fun _ => ?_))
   | exact ih0 _ _ _ _ _ _
   | exact spec_l05Port.mono _ _ _ _ _ _
   | exact LeO.none _
   | refine LeO.ite ?_ ?_
   | refine LeO.bind ?_ (fun _ => ?_)
theorem spec_l05Make.mono : ∀ a0 a1 a2 k, LeO (spec_l05Make.f k a0 a1 a2) (spec_l05Make.f (k + 1) a0 a1 a2) := by
 intro a0 a1 a2 k
 have ih0 := spec_l05Make.mono_l k
 unfold spec_l05Make.f
 repeat' first
   | (with_reducible exact ih0 _ _ _ _ _ _)
   | (with_reducible exact spec_l05Port.mono _ _ _ _ _ _)
   | (with_reducible exact LeO.refl _)
   | (with_reducible exact LeO.none _)
   | (with_reducible refine LeO.ite ?_ ?_)
   | (with_reducible refine LeO.bind ?_ (fun _ => ?_))
   | exact ih0 _ _ _ _ _ _
   | exact spec_l05Port.mono _ _ _ _ _ _
   | exact LeO.none _
   | refine LeO.ite ?_ ?_
   | refine LeO.bind ?_ (fun _ => ?_)
def spec_l05Make.T6 : Bool × List (List Nat × List Nat) := (true, [([], []), ([0], [0]), ([], []), ([], []), ([], []), ([], []), ([4, 5], [4, 5]), ([], []), ([], []), ([7, 8], [7, 8]), ([2, 3, 6, 9], [2, 3, 6, 9]), ([10], [10]), ([1, 11, 10], [1, 11]), ([0, 1, 2, 3, 4, 5, 6, 7, 8, 9, 10, 11, 12], []), ([13, 12, 12, 0, 1, 2, 3, 4, 5, 6, 7, 8, 9, 10, 11, 12], [12, 13])])
def spec_l05Make.B6 : List Nat := [0, 1, 0, 0, 0, 0, 48, 0, 0, 384, 1020, 2044, 4095, 8191, 16383]
theorem spec_l05Make.tab6 : rtab .any (opsOf Try.f82 6) = spec_l05Make.T6 := by kernel_rfl
theorem spec_l05Make.bits6 : waitsOk spec_l05Make.T6.2 spec_l05Make.B6 = true := by kernel_rfl
set_option maxHeartbeats 8000000 in
set_option maxRecDepth 100000 in
theorem spec_l05Make.calls (k : Nat) (a0_0 : Int) (a0_1 : Int) (a1 : Int) (r : List Int) (w : World) (h : spec_l05Make.f k a0_0 a0_1 a1 = some r) :
  Calls Try.prog 82 #[.agg #[.int .i64 a0_0, .int .i64 a0_1], .int .i64 a1] w fun e w' => ∃ v0_ : Value, e = .returned (.agg #[v0_]) ∧ Kd.R (Kd.int .i64) 3 w' w.heap.size (fun _ => True) v0_ r ∧ Below w.heap.size w w' := by
 have hu42 := Try.underlying42
 have hu46 := Try.underlying46
 have HB := Aside0.mk (Below.refl w.heap.size w)
 have H : ((spec_NodeCount.f a0_0 a0_1).bind fun t329 => (spec_l05Make.l0 k a1 t329 0 a0_0 a0_1 ([] : List Int))) = some r := h
 clear h
 replace H := Option.bind_eq_some_iff.mp H
 obtain ⟨t329, A30, H⟩ := H
 try dsimp only at H
 have A3 := Aside0.mk A30
 clear A30
 have H' := Aside0.mk H
 clear H
 go_enter Try.func82, Try.ntmps82
 go_wp2_with (first | ((with_reducible refine gate_dst (N := 2) rfl ?_); refine box_event ?hg (N := 2) ?hd (cs := #[.int .i64 a0_0, .int .i64 a0_1]) (t := 42) ?hr ?_; (case hd => rfl); (case hg => rfl); (case hr => first | (go_simp; done) | (go_simp; rfl)); intro gb326 hg w4 hbox hb; have BK326 := Aside0.mk (hbox); have GW326 := Aside0.mk ((by rw [hg]; exact (bz_ HB.out) : w.heap.size ≤ gb326)); have GE326 := Aside0.mk ((by rw [hg]; exact (bz_ HB.out) : w.heap.size ≤ gb326)); replace HB := Aside0.mk (bs_ HB.out hb); clear hb hbox hg) | ((with_reducible refine gate_dst (N := 4) rfl ?_); refine box_event ?hg (N := 4) ?hd (cs := #[.slice none 0 0]) (t := 46) ?hr ?_; (case hd => rfl); (case hg => rfl); (case hr => first | (go_simp; done) | (go_simp; rfl)); intro gb327 hg w5 hbox hb; have BK327 := Aside0.mk (hbox); have GW327 := Aside0.mk ((by rw [hg]; exact (bz_ HB.out) : w.heap.size ≤ gb327)); have GE327 := Aside0.mk ((by rw [hg]; exact (bz_ HB.out) : w.heap.size ≤ gb327)); replace HB := Aside0.mk (bs_ HB.out hb); have NB326_327 := Aside0.mk ((by rw [hg]; exact Nat.ne_of_lt (bl_ BK326.out) : gb326 ≠ gb327)); have NB327_326 := Aside0.mk ((by rw [hg]; exact Nat.ne_of_gt (bl_ BK326.out) : gb327 ≠ gb326)); replace BK326 := Aside0.mk (bk_ BK326.out hb); clear hb hbox hg) | ((with_reducible refine gate_dst (N := 5) rfl ?_); refine box_event ?hg (N := 5) ?hd (cs := #[.slice none 0 0]) (t := 46) ?hr ?_; (case hd => rfl); (case hg => rfl); (case hr => first | (go_simp; done) | (go_simp; rfl)); intro gb328 hg w6 hbox hb; have BK328 := Aside0.mk (hbox); have GW328 := Aside0.mk ((by rw [hg]; exact (bz_ HB.out) : w.heap.size ≤ gb328)); have GE328 := Aside0.mk ((by rw [hg]; exact (bz_ HB.out) : w.heap.size ≤ gb328)); replace HB := Aside0.mk (bs_ HB.out hb); have NB326_328 := Aside0.mk ((by rw [hg]; exact Nat.ne_of_lt (bl_ BK326.out) : gb326 ≠ gb328)); have NB328_326 := Aside0.mk ((by rw [hg]; exact Nat.ne_of_gt (bl_ BK326.out) : gb328 ≠ gb326)); replace BK326 := Aside0.mk (bk_ BK326.out hb); have NB327_328 := Aside0.mk ((by rw [hg]; exact Nat.ne_of_lt (bl_ BK327.out) : gb327 ≠ gb328)); have NB328_327 := Aside0.mk ((by rw [hg]; exact Nat.ne_of_gt (bl_ BK327.out) : gb328 ≠ gb327)); replace BK327 := Aside0.mk (bk_ BK327.out hb); clear hb hbox hg; have hnb7 := NB328_326.out; have hnc7 := NB326_328.out; have hnb8 := NB328_327.out; have hnc8 := NB327_328.out; obtain ⟨hcz9_0, hfz9_0⟩ := cz1_ BK328.out; have hnb10 := NB326_327.out; have hnc10 := NB327_326.out; obtain ⟨hcz11_0, hcz11_1, hfz11_0, hfz11_1⟩ := cz2_ BK326.out) | ((with_reducible refine gate_callee (f := 110) rfl ?_); refine gm_ (some 10) Try.func110 #[.agg #[.int .i64 a0_0, .int .i64 a0_1]] rfl ?_; (with_reducible refine (spec_NodeCount.calls a0_0 a0_1 t329 _ A3.out).mono ?_); rintro e w12 ⟨rfl, hb⟩; refine ⟨_, rfl, ?_⟩; replace BK326 := Aside0.mk (blk_below (bf_ BK326.out) hb); replace BK327 := Aside0.mk (blk_below (bf_ BK327.out) hb); replace BK328 := Aside0.mk (blk_below (g := gb328) (o := .cells #[.slice none 0 0] 46 (0, 0)) (by (with_reducible repeat (first | refine blk_drewN ?_ _ | refine blk_drew ?_ | refine blk_alloc ?_ _)); refine blk_put (cs := #[.slice none 0 0]) ?_ 0 _ rfl; (with_reducible repeat (first | refine blk_drewN ?_ _ | refine blk_drew ?_ | refine blk_alloc ?_ _)); exact BK328.out) hb); replace HB := Aside0.mk (bs_ HB.out hb); (try clear hb)))
 go_loopg [7] k (fun kq v7 w' => ∃ (x7_1 : Int) (x329000_1 : List Int) (u329000 : Value), v7 = .int .i64 x7_1 ∧ Aside0 (spec_l05Make.l0 kq a1 t329 x7_1 a0_0 a0_1 x329000_1 = some r) ∧ Aside0 (kq ≤ k) ∧ Aside0 (Kd.R (Kd.int .i64) 3 w' w.heap.size (fun _ => True) u329000 x329000_1) ∧ Aside0 (w'.heap[gb326]? = some (.cells #[.int .i64 a0_0, .int .i64 a0_1] 42 (0, 0))) ∧ Aside0 (w'.heap[gb327]? = some (.cells #[(.slice none 0 0)] 46 (0, 0))) ∧ Aside0 (w'.heap[gb328]? = some (.cells #[u329000] 46 (0, 0))) ∧ Aside0 (Below w.heap.size w w'))
 case atStart => exact ⟨(0), (([] : List Int)), (.slice none 0 0), ef_, H', ⟨Nat.le_refl _⟩, ⟨by first | exact Kd.R_nil _ _ _ _ _ | exact Kd.N_nil _ _ _ _ _ | exact Kd.V_nil _ _ _ _ _ | exact Kd.Q_nil _ _ _ _ _ | exact Kd.S_nil _ _ _ _ _⟩, ⟨bq_ BK326.out⟩, ⟨bq_ BK327.out⟩, ⟨bq_ BK328.out⟩, ⟨bb_ HB.out⟩⟩
 case round =>
  clear H'
  try clear hcz11_0 hcz11_1 hfz11_0 hfz11_1
  try clear hcz9_0 hfz9_0
  obtain ⟨x7_1, x329000_1, u329000, rfl, HA, HK1, HO_329000, BK326, BK327, BK328, HB⟩ := hrel
  cases gk with
  | zero => exact absurd HA.out (by simp [spec_l05Make.l0])
  | succ k1 =>
   have H := HA.out
   clear HA
   simp only [spec_l05Make.l0] at H
   by_cases c13 : x7_1 < (wrap64 (t329 * t329))
   ·rw [if_pos c13] at H
    have c13b0 : decide (x7_1 < (wrap64 (t329 * t329))) = true := decide_eq_true c13
    clear c13
    by_cases c14 : t329 = 0
    ·rw [if_pos c14] at H
     exact absurd H (by simp)
    ·rw [if_neg c14] at H
     have c14b0 : (t329 == 0) = false := beq_eq_false_iff_ne.mpr c14
     have c14b1 : (t329 != 0) = true := bne_iff_ne.mpr c14
     replace H := Option.bind_eq_some_iff.mp H
     obtain ⟨t330, A150, H⟩ := H
     try dsimp only at H
     have A15 := Aside0.mk A150
     clear A150
     by_cases c16 : x329000_1.length < 17592186044416
     ·rw [if_pos c16] at H
      have LMc16 := Aside0.mk c16
      clear c16
      obtain ⟨y331, hy331⟩ : ∃ y_ : List Int, y_ = (x329000_1 ++ [t330]) := ⟨_, rfl⟩
      replace H : (spec_l05Make.l0 k1 a1 t329 (wrap64 (x7_1 + 1)) a0_0 a0_1 y331) = some r := by first | (rw [hy331]; with_reducible exact H) | (have H2_ := (Option.bind_some _ _).symm.trans H; rw [hy331]; with_reducible exact H2_) | (have H2_ := (Option.bind_some _ _).symm.trans H; with_reducible exact H2_) | with_reducible exact H | (rw [hy331]; exact H) | exact H
      have Ny331 := Aside0.mk hy331
      clear hy331
      have H' := Aside0.mk H
      clear H
      try go_wp2
      have n0_ := Aside0.mk (Kd.R_drew HO_329000.out)
      have n1_ := Aside0.mk (blk_drew BK326.out)
      have n2_ := Aside0.mk (blk_drew BK327.out)
      have n3_ := Aside0.mk (blk_drew BK328.out)
      have n4_ := Aside0.mk (below_drew1 HB.out)
      clear HO_329000
      clear BK326
      clear BK327
      clear BK328
      clear HB
      have HO_329000 := n0_
      have BK326 := n1_
      have BK327 := n2_
      have BK328 := n3_
      have HB := n4_
      clear n0_ n1_ n2_ n3_ n4_
      refine start_ (n := 15) (S := fun w' => w'.cell? ⟨gb328, 0, none⟩ = some (u329000) ∧ w'.cell? ⟨gb326, 0, none⟩ = some (.int .i64 a0_0) ∧ w'.cell? ⟨gb326, 1, none⟩ = some (.int .i64 a0_1)) (ds := [14]) #[false, false, false, false, false, false, false, false, false, false, false, false, false, false, false] (by kernel_rfl) rfl rfl ⟨(blk_cell BK328.out 0).trans rfl, (blk_cell BK326.out 0).trans rfl, (blk_cell BK326.out 1).trans rfl⟩ (fun hHeld => ?_); refine with_tabW spec_l05Make.tab6 spec_l05Make.bits6 (fun HT_ HW_ => ?_)
      generalize wr.drew = w17 at HO_329000 BK326 BK327 BK328 HB hHeld ⊢
      refine pu_ 0 18 (bt_ 15 1) HT_ ?_
      refine pu_ 3 21 (bt_ 15 9) HT_ ?_
      refine pu_ 4 22 (bt_ 15 25) HT_ ?_
      refine pu_ 5 23 (bt_ 15 57) HT_ ?_
      refine pu_ 6 24 (bt_ 15 121) HT_ ?_
      refine pu_ 7 25 (bt_ 15 249) HT_ ?_
      refine pu_ 8 26 (bt_ 15 505) HT_ ?_
      refine pu_ 9 27 (bt_ 15 1017) HT_ ?_
      refine take_ (i := 1) (N := some 19) (v := ?_) (a' := ?_) (bt_ 15 1019) rfl rfl (take_ofW HT_.out HW_.out (by kernel_rfl)) (fun _ _ _ h => h) (Or.inl ⟨by rfl, ?_⟩) hHeld ?_ ?_
      rotate_left
      ·rintro w' ⟨s0, s1, s2⟩
       go_simp
       with_reducible rfl
      rotate_left
      ·simp only [Act.put, List.setIfInBounds_toArray, List.set_cons_zero, List.set_cons_succ, i64_w, i32_w]
       rfl
      refine take_ (i := 2) (N := some 20) (v := ?_) (a' := ?_) (bt_ 15 1023) rfl rfl (take_ofW HT_.out HW_.out (by kernel_rfl)) (fun _ _ _ h => h) (Or.inl ⟨by rfl, ?_⟩) hHeld ?_ ?_
      rotate_left
      ·rintro w' ⟨s0, s1, s2⟩
       go_simp
       with_reducible rfl
      rotate_left
      ·simp only [Act.put, List.setIfInBounds_toArray, List.set_cons_zero, List.set_cons_succ, i64_w, i32_w]
       rfl
      refine one_ (i := 10) (N := some 28) (bt_ 15 2047) rfl rfl (one_of HT_.out (by kernel_rfl)) (by decide) (fun K hK => ?_)
      refine goes_ Try.func121 (by kernel_rfl) rfl #[.agg #[.int .i64 a0_0, .int .i64 a0_1], .int .i64 a1, .int .i64 (wrap64 (Int.tdiv x7_1 t329)), .int .i64 (Int.tmod x7_1 t329)] (by rfl) rfl rfl (by (try simp only [List.map_toArray, List.map_cons, List.map_nil]); first | done | rfl | (simp only [List.length_drop, List.length_take]; rfl)) ?_
      with_reducible refine (spec_l05Port.calls k1 a0_0 a0_1 a1 (wrap64 (Int.tdiv x7_1 t329)) (Int.tmod x7_1 t329) t330 _ A15.out).mono ?_
      rintro e w18 ⟨rfl, hb⟩
      refine ⟨_, rfl, ?_⟩
      have n0_ := Aside0.mk (Kd.R_below (ra_ HO_329000.out) hb)
      have n1_ := Aside0.mk (bk_ BK326.out hb)
      have n2_ := Aside0.mk (bk_ BK327.out hb)
      have n3_ := Aside0.mk (bk_ BK328.out hb)
      have n4_ := Aside0.mk (bs_ HB.out hb)
      clear HO_329000
      clear BK326
      clear BK327
      clear BK328
      clear HB
      have HO_329000 := n0_
      have BK326 := n1_
      have BK327 := n2_
      have BK328 := n3_
      have HB := n4_
      clear n0_ n1_ n2_ n3_ n4_
      (try clear hb)
      (try clear hb2)
      (try clear hk)
      (try clear hi)
      refine hK.out _ _ ⟨(blk_cell BK328.out 0).trans rfl, (blk_cell BK326.out 0).trans rfl, (blk_cell BK326.out 1).trans rfl⟩ (fun hHeld => ?_)
      clear hK K
      refine norm_ (a' := ?_) ?_ ?_
      rotate_left
      ·show Act.put _ (some 28) _ = _
       simp only [Act.put, List.setIfInBounds_toArray, List.set_cons_zero, List.set_cons_succ, i64_w, i32_w]
       rfl
      refine one_ (i := 11) (N := some 29) (bt_ 15 4095) rfl rfl (one_of HT_.out (by kernel_rfl)) (by decide) (fun K hK => ?_)
      refine value_ (w1 := ?_) (v := ?_) (by rfl) rfl ?_ ?_
      rotate_left 2
      ·go_simp
       constructor
       ·rfl
       ·rfl
      refine hK.out _ _ ⟨(blk_cell (blk_alloc BK328.out _) 0).trans rfl, (blk_cell (blk_alloc BK326.out _) 0).trans rfl, (blk_cell (blk_alloc BK326.out _) 1).trans rfl⟩ (fun hHeld => ?_)
      clear hK K
      refine norm_ (a' := ?_) ?_ ?_
      rotate_left
      ·show Act.put _ (some 29) _ = _
       simp only [Act.put, List.setIfInBounds_toArray, List.set_cons_zero, List.set_cons_succ, i64_w, i32_w]
       rfl
      refine one_ (i := 12) (N := some 30) (bt_ 15 8191) rfl rfl (one_of HT_.out (by kernel_rfl)) (by decide) (fun K hK => ?_)
      refine Kd.R_append_step (Kd.int .i64) (w0 := w) w.heap.size (by rfl) (.tmp 19) (.tmp 29) 29 3 (.int .i64 0) 8 rfl Try.underlying29 info3 rfl (by decide) (by omega) u329000 x329000_1 t330 [.int .i64 t330] (fun _ => True) (fun _ => False) rfl rfl ?aP (fun _ hk => hk.elim) ?aF ?aO ?aB ?aS ?aL ?_
      (case aP => exact rfl)
      (case aB => exact (by repeat (first | (with_reducible first | exact HB.out | apply below_alloc | apply pw_below_drewN | apply below_drew1 | refine below_set ?_ GE326.out | refine below_set ?_ GE327.out | refine below_set ?_ GE328.out) | exact HB.out)))
      (case aF => exact (fun _ _ => trivial))
      (case aO => exact (ra_ HO_329000.out))
      (case aS => exact (bz_ HB.out))
      (case aL => have := LMc16.out; omega)
      intro v332 w19 ho hb hg hat
      rw [← Ny331.out] at ho
      have n0_ := Aside0.mk (blk_grown (g := gb326) (o := .cells #[.int .i64 a0_0, .int .i64 a0_1] 42 (0, 0)) (by (with_reducible repeat (first | refine blk_drewN ?_ _ | refine blk_drew ?_ | refine blk_alloc ?_ _)); exact BK326.out) hg (Kd.R_ne HO_329000.out BK326.out (by decide)))
      have n1_ := Aside0.mk (blk_grown (g := gb327) (o := .cells #[.slice none 0 0] 46 (0, 0)) (by (with_reducible repeat (first | refine blk_drewN ?_ _ | refine blk_drew ?_ | refine blk_alloc ?_ _)); exact BK327.out) hg (Kd.R_ne HO_329000.out BK327.out (by decide)))
      have n2_ := Aside0.mk (blk_grown (g := gb328) (o := .cells #[u329000] 46 (0, 0)) (by (with_reducible repeat (first | refine blk_drewN ?_ _ | refine blk_drew ?_ | refine blk_alloc ?_ _)); exact BK328.out) hg (Kd.R_ne HO_329000.out BK328.out (by decide)))
      have n3_ := Aside0.mk (hb)
      have n4_ := Aside0.mk (ho)
      clear BK326
      clear BK327
      clear BK328
      clear HB
      clear HO_329000
      have BK326 := n0_
      have BK327 := n1_
      have BK328 := n2_
      have HB := n3_
      have HO333 := n4_
      clear n0_ n1_ n2_ n3_ n4_
      clear ho hb hg hat
      obtain ⟨Ao20, co20, eo20⟩ := Kd.R_slice HO333.out
      (first | subst eo20 | (injection eo20 with f1_ f2_ f3_; have f4_ := f1_.symm; have f5_ := f3_.symm; clear f1_ f2_ f3_; subst f4_; subst f5_))
      refine hK.out _ _ ⟨(blk_cell BK328.out 0).trans rfl, (blk_cell BK326.out 0).trans rfl, (blk_cell BK326.out 1).trans rfl⟩ (fun hHeld => ?_)
      clear hK K
      refine norm_ (a' := ?_) ?_ ?_
      rotate_left
      ·show Act.put _ (some 30) _ = _
       simp only [Act.put, List.setIfInBounds_toArray, List.set_cons_zero, List.set_cons_succ, i64_w, i32_w]
       rfl
      refine pu_ 13 31 (bt_ 15 16383) HT_ ?_
      refine last_ (i := 14) (N := none) (bt_ 15 32767) rfl rfl (one_of HT_.out (by kernel_rfl)) (by decide) (fun K hK => ?_)
      have hs21 : w19.cell? ⟨gb328, 0, none⟩ = some (u329000) := (blk_cell BK328.out 0).trans rfl
      have hfs21 := blk_frozen BK328.out 0
      have hns21_0 := NB326_328.out
      have hns21_1 := NB327_328.out
      have hms21_0 := NB328_326.out
      have hms21_1 := NB328_327.out
      refine skip_ (w1 := ?_) (by rfl) rfl ?_ ?_
      rotate_left
      ·go_simp
       rfl
      refine hK.out _ _ ?_
      clear hK K
      refine done_ (done_of HT_.out (by kernel_rfl)) ?_
      try go_wp2
      go_roundg k1
      case measure => have := HK1.out; omega
      case rel => exact ⟨(wrap64 (x7_1 + 1)), (y331), (.slice Ao20 y331.length co20), ef_, H', ⟨by have := HK1.out; omega⟩, ⟨rm_ (Kd.R_types HO333.out BK328.out (by decide)) (fun _ hk => trivial)⟩, ⟨by (with_reducible repeat (first | refine blk_drewN ?_ _ | refine blk_drew ?_ | refine blk_alloc ?_ _)); refine blk_far ?_ NB326_328.out _; (with_reducible repeat (first | refine blk_drewN ?_ _ | refine blk_drew ?_ | refine blk_alloc ?_ _)); exact BK326.out⟩, ⟨by (with_reducible repeat (first | refine blk_drewN ?_ _ | refine blk_drew ?_ | refine blk_alloc ?_ _)); refine blk_far ?_ NB327_328.out _; (with_reducible repeat (first | refine blk_drewN ?_ _ | refine blk_drew ?_ | refine blk_alloc ?_ _)); exact BK327.out⟩, ⟨by (with_reducible repeat (first | refine blk_drewN ?_ _ | refine blk_drew ?_ | refine blk_alloc ?_ _)); refine blk_put (cs := #[u329000]) ?_ 0 _ rfl; (with_reducible repeat (first | refine blk_drewN ?_ _ | refine blk_drew ?_ | refine blk_alloc ?_ _)); exact BK328.out⟩, ⟨bb_ HB.out⟩⟩
     ·rw [if_neg c16] at H
      exact absurd H (by simp)
   ·rw [if_neg c13] at H
    have c13b0 : decide (x7_1 < (wrap64 (t329 * t329))) = false := decide_eq_false c13
    clear c13
    obtain rfl := Option.some.inj H
    have hnb22 := NB328_326.out
    have hnc22 := NB326_328.out
    have hnb23 := NB328_327.out
    have hnc23 := NB327_328.out
    obtain ⟨hcz24_0, hfz24_0⟩ := cz1_ BK328.out
    obtain ⟨Ao25, co25, eo25⟩ := Kd.R_slice HO_329000.out
    subst eo25
    have hnb26 := NB327_326.out
    have hnc26 := NB326_327.out
    obtain ⟨hcz27_0, hfz27_0⟩ := cz1_ BK327.out
    go_wp2
    refine bodyPost_ret (results_cell_row rfl _ _ gb327 46 #[.slice Ao25 x329000_1.length co25] (0, 0) _ rfl (by (with_reducible repeat (first | refine blk_drewN ?_ _ | refine blk_drew ?_ | refine blk_alloc ?_ _)); refine blk_put (cs := #[.slice none 0 0]) ?_ 0 _ rfl; (with_reducible repeat (first | refine blk_drewN ?_ _ | refine blk_drew ?_ | refine blk_alloc ?_ _)); exact BK327.out) Try.underlying46 rfl (by kernel_rfl)) rfl ?_
    exact ⟨_, fin_, rm_ (Kd.R_types HO_329000.out BK327.out (by decide)) (fun _ hk => trivial), bb_ HB.out⟩

/-! ### spec_l01PickInt: function 130 -/
def spec_l01PickInt.f (s0_0 : List Int) (s0_1 : Int) (s0_2 : Int) (l1 : List Int) : Option (Int × Int × Int) := (spec_l01Below.f s0_0 s0_1 s0_2 (l1.length : Int)).bind fun bt334 => (if 0 ≤ bt334.1 then (if bt334.1 < (l1.length : Int) then (some (rd l1 bt334.1, bt334.2.1, bt334.2.2)) else (none)) else (none))
set_option maxHeartbeats 8000000 in
set_option maxRecDepth 100000 in
theorem spec_l01PickInt.calls (g : Nat) (s0_0 : List Int) (s0_1 : Int) (s0_2 : Int) (A1 : Option Addr) (c1 : Nat) (l1 : List Int) (r1 : Int) (r2 : Int) (r3 : Int) (w0 w : World) (hI : IsS125 w0 w g s0_0 s0_1 s0_2) (hB : Below w0.heap.size w0 w) (hr1 : Kd.C (Kd.int .i64) w A1 l1.length l1) (hc1 : l1.length ≤ c1) (hf1 : ∀ ad, A1 = some ad → 0 < l1.length → ad.block ≠ g) (h : spec_l01PickInt.f s0_0 s0_1 s0_2 l1 = some (r1, r2, r3)) :
  Calls Try.prog 130 #[.pointer (some ⟨g, 0, none⟩), .slice A1 l1.length c1] w fun e w' => e = .returned (.int .i64 r1) ∧ IsS125 w0 w' g s0_0 r2 r3 ∧ Below w0.heap.size w0 w' ∧ KeepBut w w' g none := by
 have HR1 := Aside0.mk hr1
 have HC1 := Aside0.mk hc1
 clear hr1 hc1
 have HI0 := Aside0.mk hI
 have HK := Aside0.mk (KeepBut.refl w g none)
 have HL := Aside0.mk hB.size
 clear hI
 have HW0 := Aside0.mk hB.size
 have HB := Aside0.mk hB
 clear hB
 have H : ((spec_l01Below.f s0_0 s0_1 s0_2 (l1.length : Int)).bind fun bt334 => (if 0 ≤ bt334.1 then (if bt334.1 < (l1.length : Int) then (some (rd l1 bt334.1, bt334.2.1, bt334.2.2)) else (none)) else (none))) = some (r1, r2, r3) := h
 clear h
 replace H := Option.bind_eq_some_iff.mp H
 obtain ⟨⟨t334, t335, t336⟩, A30, H⟩ := H
 try dsimp only at H
 have A3 := Aside0.mk A30
 clear A30
 by_cases c4 : 0 ≤ t334
 ·rw [if_pos c4] at H
  have c4b0 : decide (0 ≤ t334) = true := decide_eq_true c4
  clear c4
  by_cases c5 : t334 < (l1.length : Int)
  ·rw [if_pos c5] at H
   have c5b0 : decide (t334 < (l1.length : Int)) = true := decide_eq_true c5
   clear c5
   simp only [Option.some.injEq, Prod.mk.injEq] at H
   obtain ⟨rfl, rfl, rfl⟩ := H
   go_enter Try.func130, Try.ntmps130
   go_wp2_with (first | ((with_reducible refine gate_callee (f := 71) rfl ?_); refine gm_ (some 9) Try.func71 #[.pointer (some ⟨g, 0, none⟩), .int .i64 (l1.length : Int)] rfl ?_; (with_reducible refine (spec_l01Below.calls g s0_0 s0_1 s0_2 (l1.length : Int) t334 t335 t336 w0 _ ?side1 ?side2 A3.out).mono ?_); (case side1 => repeat (first | (with_reducible first | exact HI0.out | apply IsS125.alloc | apply IsS125.drewN | apply IsS125.drew | apply IsS125.set_1 | apply IsS125.set_2) | exact HI0.out)); (case side2 => repeat (first | (with_reducible first | exact HB.out | apply below_alloc | apply pw_below_drewN | apply below_drew1 | refine below_set ?_ (IsS125.ge HI0.out)) | exact HB.out)); rintro e w6 ⟨rfl, hi, hb, hk⟩; refine ⟨_, rfl, ?_⟩; replace HK := Aside0.mk (KeepBut.trans (by repeat (first | (with_reducible first | exact HK.out | apply KeepBut.set_ | apply keep_drewN | apply keep_drew | apply keep_alloc) | exact HK.out)) hk (.inl rfl)); replace HB := Aside0.mk (hb); replace HI0 := Aside0.mk (hi); (try clear hb); have p337 : 0 ≤ (t334 : Int) := of_decide_eq_true dg_; have q337 : t334 < (l1.length : Int) := of_decide_eq_true dg_; obtain ⟨ad337, e337, hx337_0⟩ := Kd.at_int HR1.out t334 p337 q337; cases e337; replace hx337_0 := keep_cell HK.out hx337_0 (by first | (rw [add_block]; exact hf1 _ rfl (by omega)) | exact hf1 _ rfl (by omega) | exact hf1 ad337 rfl (by omega)); replace p337 := eq_true p337; replace q337 := eq_true q337))
   go_ret
   exact ⟨fin_, by repeat (first | (with_reducible first | exact HI0.out | apply IsS125.alloc | apply IsS125.drewN | apply IsS125.drew | apply IsS125.set_1 | apply IsS125.set_2) | exact HI0.out), by repeat (first | (with_reducible first | exact HB.out | apply below_alloc | apply pw_below_drewN | apply below_drew1 | refine below_set ?_ (IsS125.ge HI0.out)) | exact HB.out), by repeat (first | (with_reducible first | exact HK.out | apply KeepBut.set_ | apply keep_drewN | apply keep_drew | apply keep_alloc) | exact HK.out)⟩
  ·rw [if_neg c5] at H
   exact absurd H (by simp)
 ·rw [if_neg c4] at H
  exact absurd H (by simp)

end Go.Proofs.Ytimdefbpoddoaaa.PFnClasses
-- thin
