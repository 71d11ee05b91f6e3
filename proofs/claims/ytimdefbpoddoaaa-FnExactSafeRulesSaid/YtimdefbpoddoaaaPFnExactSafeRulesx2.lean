/- The law's functions as plain functions, and their calls. No condition. -/
import Derived.Test.YtimdefbpoddoaaaPFnExactSafeRulesx0
namespace Go.Proofs.Ytimdefbpoddoaaa.PFnExactSafeRules
open Go.RowKit Go.Proofs.YtimdefbpoddoaaaW.PrintWords Go.Proofs.YtimdefbpoddoaaaW.PrintLast Go.Proofs.YtimdefbpoddoaaaW.PrintMore
attribute [local go_sem] max2_int min2_int max_two min_two max_three min_three max_four min_four
set_option linter.unusedVariables false
set_option maxHeartbeats 8000000
set_option maxRecDepth 100000
set_option linter.unusedSimpArgs false

/-! ### spec_l01In: function 61 -/
def spec_l01In.f (a0 : Int) (a1 : Int) (a2 : Int) : Option (Bool) := if a0 ≥ a1 then (some (decide (a0 ≤ a2))) else (some false)
theorem spec_l01In.e0 {P : Prop} (h : P := by
 go_enter Try.func61, Try.ntmps61
 go_wp2
 go_ret
 exact ⟨by first | rfl | (simp; done) | (simp [*]; done), by repeat (first | exact Drawn0.refl _ | apply Drawn0.step)⟩) : P := h
theorem spec_l01In.calls (a0 : Int) (a1 : Int) (a2 : Int) (r : Bool) (w : World) (h : spec_l01In.f a0 a1 a2 = some r) :
  Calls Try.prog 61 #[.int .i64 a0, .int .i64 a1, .int .i64 a2] w fun e w' => e = .returned (.bool r) ∧ Drawn0 w w' := by
 have H : (if a0 ≥ a1 then (some (decide (a0 ≤ a2))) else (some false)) = some r := h
 clear h
 by_cases c4 : a0 ≥ a1
 ·rw [if_pos c4] at H
  have c4b0 : decide (a1 ≤ a0) = true := decide_eq_true c4
  clear c4
  obtain rfl := Option.some.inj H
  exact spec_l01In.e0
 ·rw [if_neg c4] at H
  have c4b0 : decide (a1 ≤ a0) = false := decide_eq_false c4
  clear c4
  obtain rfl := Option.some.inj H
  exact spec_l01In.e0

/-! ### spec_GridOk: function 81 -/
def spec_GridOk.f (a0_0 : Int) (a0_1 : Int) : Option (Bool) := (spec_l01In.f a0_0 1 4).bind fun t102 => (if t102 = true then ((spec_l01In.f a0_1 1 4).bind fun t103 => (some t103)) else (some false))
theorem spec_GridOk.e0 {P : Prop} (h : P := by
 go_enter Try.func81, Try.ntmps81
 go_wp2_with (first | ((with_reducible refine gate_dst (N := 1) rfl ?_); refine box_event ?hg (N := 1) ?hd (cs := #[.int .i64 a0_0, .int .i64 a0_1]) (t := 42) ?hr ?_; (case hd => rfl); (case hg => rfl); (case hr => first | (go_simp; done) | (go_simp; rfl)); intro gb101 hg w_0 hbox hb; have BK101 := Aside0.mk (hbox); have GW101 := Aside0.mk ((by rw [hg]; exact (bz_ HB.out) : w.heap.size ≤ gb101)); have GE101 := Aside0.mk ((by rw [hg]; exact (bz_ HB.out) : w.heap.size ≤ gb101)); replace HB := Aside0.mk (bs_ HB.out hb); clear hb hbox hg; obtain ⟨hcz_0, hcz_1, hfz_0, hfz_1⟩ := cz2_ BK101.out) | ((with_reducible refine gate_callee (f := 61) rfl ?_); refine gm_ (some 5) Try.func61 #[.int .i64 a0_0, .int .i64 1, .int .i64 4] rfl ?_; (with_reducible refine (spec_l01In.calls a0_0 1 4 _ _ A2.out).mono ?_); rintro e w' ⟨rfl, ⟨nd, rfl⟩⟩; refine ⟨_, rfl, ?_⟩) | (go_at_call 61; (with_reducible refine (spec_l01In.calls a0_1 1 4 t103 _ A4.out).mono ?_); rintro e w' ⟨rfl, ⟨nd, rfl⟩⟩))
 go_ret
 exact ⟨fin_, bb_ HB.out⟩) : P := h
theorem spec_GridOk.calls (a0_0 : Int) (a0_1 : Int) (r : Bool) (w : World) (h : spec_GridOk.f a0_0 a0_1 = some r) :
  Calls Try.prog 81 #[.agg #[.int .i64 a0_0, .int .i64 a0_1]] w fun e w' => e = .returned (.bool r) ∧ Below w.heap.size w w' := by
 have hu42 := Try.underlying42
 have HB := Aside0.mk (Below.refl w.heap.size w)
 have H : ((spec_l01In.f a0_0 1 4).bind fun t102 => (if t102 = true then ((spec_l01In.f a0_1 1 4).bind fun t103 => (some t103)) else (some false))) = some r := h
 clear h
 replace H := Option.bind_eq_some_iff.mp H
 obtain ⟨t102, A20, H⟩ := H
 try dsimp only at H
 have A2 := Aside0.mk A20
 clear A20
 by_cases c3 : t102 = true
 ·subst c3
  rw [if_pos rfl] at H
  replace H := Option.bind_eq_some_iff.mp H
  obtain ⟨t103, A40, H⟩ := H
  try dsimp only at H
  have A4 := Aside0.mk A40
  clear A40
  obtain rfl := Option.some.inj H
  exact spec_GridOk.e0
 ·replace c3 := Bool.eq_false_iff.mpr c3
  subst c3
  rw [if_neg (show ¬ (false = true) by decide)] at H
  obtain rfl := Option.some.inj H
  exact spec_GridOk.e0

/-! ### spec_NodeCount: function 110 -/
def spec_NodeCount.f (a0_0 : Int) (a0_1 : Int) : Option (Int) := (spec_GridOk.f a0_0 a0_1).bind fun t105 => (if t105 = true then (some (wrap64 (a0_0 * a0_1))) else (some 0))
theorem spec_NodeCount.e0 {P : Prop} (h : P := by
 go_enter Try.func110, Try.ntmps110
 go_wp2_with (first | ((with_reducible refine gate_dst (N := 1) rfl ?_); refine box_event ?hg (N := 1) ?hd (cs := #[.int .i64 a0_0, .int .i64 a0_1]) (t := 42) ?hr ?_; (case hd => rfl); (case hg => rfl); (case hr => first | (go_simp; done) | (go_simp; rfl)); intro gb104 hg w_0 hbox hb; have BK104 := Aside0.mk (hbox); have GW104 := Aside0.mk ((by rw [hg]; exact (bz_ HB.out) : w.heap.size ≤ gb104)); have GE104 := Aside0.mk ((by rw [hg]; exact (bz_ HB.out) : w.heap.size ≤ gb104)); replace HB := Aside0.mk (bs_ HB.out hb); clear hb hbox hg; obtain ⟨hcz_0, hcz_1, hfz_0, hfz_1⟩ := cz2_ BK104.out) | ((with_reducible refine gate_callee (f := 81) rfl ?_); refine gm_ (some 4) Try.func81 #[.agg #[.int .i64 a0_0, .int .i64 a0_1]] rfl ?_; (with_reducible refine (spec_GridOk.calls a0_0 a0_1 _ _ A2.out).mono ?_); rintro e w_0 ⟨rfl, hb⟩; refine ⟨_, rfl, ?_⟩; replace BK104 := Aside0.mk (bk_ BK104.out hb); replace HB := Aside0.mk (bs_ HB.out hb); (try clear hb); obtain ⟨hcz_0, hcz_1, hfz_0, hfz_1⟩ := cz2_ BK104.out))
 go_ret
 exact ⟨fin_, bb_ HB.out⟩) : P := h
theorem spec_NodeCount.calls (a0_0 : Int) (a0_1 : Int) (r : Int) (w : World) (h : spec_NodeCount.f a0_0 a0_1 = some r) :
  Calls Try.prog 110 #[.agg #[.int .i64 a0_0, .int .i64 a0_1]] w fun e w' => e = .returned (.int .i64 r) ∧ Below w.heap.size w w' := by
 have hu42 := Try.underlying42
 have HB := Aside0.mk (Below.refl w.heap.size w)
 have H : ((spec_GridOk.f a0_0 a0_1).bind fun t105 => (if t105 = true then (some (wrap64 (a0_0 * a0_1))) else (some 0))) = some r := h
 clear h
 replace H := Option.bind_eq_some_iff.mp H
 obtain ⟨t105, A20, H⟩ := H
 try dsimp only at H
 have A2 := Aside0.mk A20
 clear A20
 by_cases c3 : t105 = true
 ·subst c3
  rw [if_pos rfl] at H
  obtain rfl := Option.some.inj H
  exact spec_NodeCount.e0
 ·replace c3 := Bool.eq_false_iff.mpr c3
  subst c3
  rw [if_neg (show ¬ (false = true) by decide)] at H
  obtain rfl := Option.some.inj H
  exact spec_NodeCount.e0

/-! ### spec_l02Has: function 167 -/
def spec_l02Has.f (a0_0 : Int) (a0_1 : Int) (a1 : Int) : Option (Bool) := (spec_NodeCount.f a0_0 a0_1).bind fun t107 => ((spec_l01In.f a1 0 (wrap64 (t107 - 1))).bind fun t108 => (some t108))
theorem spec_l02Has.calls (a0_0 : Int) (a0_1 : Int) (a1 : Int) (r : Bool) (w : World) (h : spec_l02Has.f a0_0 a0_1 a1 = some r) :
  Calls Try.prog 167 #[.agg #[.int .i64 a0_0, .int .i64 a0_1], .int .i64 a1] w fun e w' => e = .returned (.bool r) ∧ Below w.heap.size w w' := by
 have hu42 := Try.underlying42
 have HB := Aside0.mk (Below.refl w.heap.size w)
 have H : ((spec_NodeCount.f a0_0 a0_1).bind fun t107 => ((spec_l01In.f a1 0 (wrap64 (t107 - 1))).bind fun t108 => (some t108))) = some r := h
 clear h
 replace H := Option.bind_eq_some_iff.mp H
 obtain ⟨t107, A30, H⟩ := H
 try dsimp only at H
 have A3 := Aside0.mk A30
 clear A30
 replace H := Option.bind_eq_some_iff.mp H
 obtain ⟨t108, A40, H⟩ := H
 try dsimp only at H
 have A4 := Aside0.mk A40
 clear A40
 obtain rfl := Option.some.inj H
 go_enter Try.func167, Try.ntmps167
 go_wp2_with (first | ((with_reducible refine gate_dst (N := 2) rfl ?_); refine box_event ?hg (N := 2) ?hd (cs := #[.int .i64 a0_0, .int .i64 a0_1]) (t := 42) ?hr ?_; (case hd => rfl); (case hg => rfl); (case hr => first | (go_simp; done) | (go_simp; rfl)); intro gb106 hg w5 hbox hb; have BK106 := Aside0.mk (hbox); have GW106 := Aside0.mk ((by rw [hg]; exact (bz_ HB.out) : w.heap.size ≤ gb106)); have GE106 := Aside0.mk ((by rw [hg]; exact (bz_ HB.out) : w.heap.size ≤ gb106)); replace HB := Aside0.mk (bs_ HB.out hb); clear hb hbox hg; obtain ⟨hcz6_0, hcz6_1, hfz6_0, hfz6_1⟩ := cz2_ BK106.out) | ((with_reducible refine gate_callee (f := 110) rfl ?_); refine gm_ (some 7) Try.func110 #[.agg #[.int .i64 a0_0, .int .i64 a0_1]] rfl ?_; (with_reducible refine (spec_NodeCount.calls a0_0 a0_1 t107 _ A3.out).mono ?_); rintro e w7 ⟨rfl, hb⟩; refine ⟨_, rfl, ?_⟩; replace BK106 := Aside0.mk (bk_ BK106.out hb); replace HB := Aside0.mk (bs_ HB.out hb); (try clear hb)) | ((with_reducible refine gate_callee (f := 61) rfl ?_); refine gm_ (some 9) Try.func61 #[.int .i64 a1, .int .i64 0, .int .i64 (wrap64 (t107 - 1))] rfl ?_; (with_reducible refine (spec_l01In.calls a1 0 (wrap64 (t107 - 1)) t108 _ A4.out).mono ?_); rintro e w' ⟨rfl, ⟨nd, rfl⟩⟩; refine ⟨_, rfl, ?_⟩))
 go_ret
 exact ⟨fin_, bb_ HB.out⟩

/-! ### spec_NodeAt: function 168 -/
def spec_NodeAt.f (a0_0 : Int) (a0_1 : Int) (a1 : Int) (a2 : Int) : Option (Int) := (spec_GridOk.f a0_0 a0_1).bind fun t110 => (if t110 = true then ((spec_l01In.f a1 0 (wrap64 (a0_0 - 1))).bind fun t111 => (if t111 = true then ((spec_l01In.f a2 0 (wrap64 (a0_1 - 1))).bind fun t112 => (if t112 = true then (some (wrap64 ((wrap64 (a2 * a0_0)) + a1))) else (some (-1)))) else (some (-1)))) else (some (-1)))
theorem spec_NodeAt.e0 {P : Prop} (h : P := by
 go_enter Try.func168, Try.ntmps168
 go_wp2_with (first | ((with_reducible refine gate_dst (N := 3) rfl ?_); refine box_event ?hg (N := 3) ?hd (cs := #[.int .i64 a0_0, .int .i64 a0_1]) (t := 42) ?hr ?_; (case hd => rfl); (case hg => rfl); (case hr => first | (go_simp; done) | (go_simp; rfl)); intro gb109 hg w_0 hbox hb; have BK109 := Aside0.mk (hbox); have GW109 := Aside0.mk ((by rw [hg]; exact (bz_ HB.out) : w.heap.size ≤ gb109)); have GE109 := Aside0.mk ((by rw [hg]; exact (bz_ HB.out) : w.heap.size ≤ gb109)); replace HB := Aside0.mk (bs_ HB.out hb); clear hb hbox hg; obtain ⟨hcz_0, hcz_1, hfz_0, hfz_1⟩ := cz2_ BK109.out) | ((with_reducible refine gate_callee (f := 81) rfl ?_); refine gm_ (some 8) Try.func81 #[.agg #[.int .i64 a0_0, .int .i64 a0_1]] rfl ?_; (with_reducible refine (spec_GridOk.calls a0_0 a0_1 _ _ A4.out).mono ?_); rintro e w_0 ⟨rfl, hb⟩; refine ⟨_, rfl, ?_⟩; replace BK109 := Aside0.mk (bk_ BK109.out hb); replace HB := Aside0.mk (bs_ HB.out hb); (try clear hb); obtain ⟨hcz_0, hcz_1, hfz_0, hfz_1⟩ := cz2_ BK109.out) | (go_at_call 61; (with_reducible refine (spec_l01In.calls a1 0 (wrap64 (a0_0 - 1)) _ _ A6.out).mono ?_); rintro e w' ⟨rfl, ⟨nd, rfl⟩⟩) | (go_at_call 61; (with_reducible refine (spec_l01In.calls a2 0 (wrap64 (a0_1 - 1)) _ _ A8.out).mono ?_); rintro e w' ⟨rfl, ⟨nd, rfl⟩⟩))
 go_ret
 exact ⟨fin_, bb_ HB.out⟩) : P := h
theorem spec_NodeAt.calls (a0_0 : Int) (a0_1 : Int) (a1 : Int) (a2 : Int) (r : Int) (w : World) (h : spec_NodeAt.f a0_0 a0_1 a1 a2 = some r) :
  Calls Try.prog 168 #[.agg #[.int .i64 a0_0, .int .i64 a0_1], .int .i64 a1, .int .i64 a2] w fun e w' => e = .returned (.int .i64 r) ∧ Below w.heap.size w w' := by
 have hu42 := Try.underlying42
 have HB := Aside0.mk (Below.refl w.heap.size w)
 have H : ((spec_GridOk.f a0_0 a0_1).bind fun t110 => (if t110 = true then ((spec_l01In.f a1 0 (wrap64 (a0_0 - 1))).bind fun t111 => (if t111 = true then ((spec_l01In.f a2 0 (wrap64 (a0_1 - 1))).bind fun t112 => (if t112 = true then (some (wrap64 ((wrap64 (a2 * a0_0)) + a1))) else (some (-1)))) else (some (-1)))) else (some (-1)))) = some r := h
 clear h
 replace H := Option.bind_eq_some_iff.mp H
 obtain ⟨t110, A40, H⟩ := H
 try dsimp only at H
 have A4 := Aside0.mk A40
 clear A40
 by_cases c5 : t110 = true
 ·subst c5
  rw [if_pos rfl] at H
  replace H := Option.bind_eq_some_iff.mp H
  obtain ⟨t111, A60, H⟩ := H
  try dsimp only at H
  have A6 := Aside0.mk A60
  clear A60
  by_cases c7 : t111 = true
  rotate_left
  ·replace c7 := Bool.eq_false_iff.mpr c7
   subst c7
   rw [if_neg (show ¬ (false = true) by decide)] at H
   obtain rfl := Option.some.inj H
   exact spec_NodeAt.e0
  subst c7
  rw [if_pos rfl] at H
  replace H := Option.bind_eq_some_iff.mp H
  obtain ⟨t112, A80, H⟩ := H
  try dsimp only at H
  have A8 := Aside0.mk A80
  clear A80
  by_cases c9 : t112 = true
  ·subst c9
   rw [if_pos rfl] at H
   obtain rfl := Option.some.inj H
   exact spec_NodeAt.e0
  replace c9 := Bool.eq_false_iff.mpr c9
  subst c9
  rw [if_neg (show ¬ (false = true) by decide)] at H
  obtain rfl := Option.some.inj H
  exact spec_NodeAt.e0
 ·replace c5 := Bool.eq_false_iff.mpr c5
  subst c5
  rw [if_neg (show ¬ (false = true) by decide)] at H
  obtain rfl := Option.some.inj H
  exact spec_NodeAt.e0

/-! ### spec_NextNode: function 140 -/
def spec_NextNode.f (a0_0 : Int) (a0_1 : Int) (a1 : Int) (a2 : Int) : Option (Int) := (spec_l02Has.f a0_0 a0_1 a1).bind fun t114 => (if t114 = true then (if a0_0 = 0 then (none) else (if a2 = 0 then ((spec_NodeAt.f a0_0 a0_1 (Int.tmod a1 a0_0) (wrap64 ((wrap64 (Int.tdiv a1 a0_0)) - 1))).bind fun t115 => (some t115)) else (if a2 = 1 then ((spec_NodeAt.f a0_0 a0_1 (wrap64 ((Int.tmod a1 a0_0) + 1)) (wrap64 (Int.tdiv a1 a0_0))).bind fun t116 => (some t116)) else (if a2 = 2 then ((spec_NodeAt.f a0_0 a0_1 (Int.tmod a1 a0_0) (wrap64 ((wrap64 (Int.tdiv a1 a0_0)) + 1))).bind fun t117 => (some t117)) else (if a2 = 3 then ((spec_NodeAt.f a0_0 a0_1 (wrap64 ((Int.tmod a1 a0_0) - 1)) (wrap64 (Int.tdiv a1 a0_0))).bind fun t118 => (some t118)) else (if a2 = 4 then (some a1) else (some (-1)))))))) else (some (-1)))
theorem spec_NextNode.e0 {P : Prop} (h : P := by
 go_enter Try.func140, Try.ntmps140
 go_wp2_with (first | ((with_reducible refine gate_dst (N := 3) rfl ?_); refine box_event ?hg (N := 3) ?hd (cs := #[.int .i64 a0_0, .int .i64 a0_1]) (t := 42) ?hr ?_; (case hd => rfl); (case hg => rfl); (case hr => first | (go_simp; done) | (go_simp; rfl)); intro gb113 hg w_0 hbox hb; have BK113 := Aside0.mk (hbox); have GW113 := Aside0.mk ((by rw [hg]; exact (bz_ HB.out) : w.heap.size ≤ gb113)); have GE113 := Aside0.mk ((by rw [hg]; exact (bz_ HB.out) : w.heap.size ≤ gb113)); replace HB := Aside0.mk (bs_ HB.out hb); clear hb hbox hg; obtain ⟨hcz_0, hcz_1, hfz_0, hfz_1⟩ := cz2_ BK113.out) | ((with_reducible refine gate_callee (f := 167) rfl ?_); refine gm_ (some 11) Try.func167 #[.agg #[.int .i64 a0_0, .int .i64 a0_1], .int .i64 a1] rfl ?_; (with_reducible refine (spec_l02Has.calls a0_0 a0_1 a1 _ _ A4.out).mono ?_); rintro e w_0 ⟨rfl, hb⟩; refine ⟨_, rfl, ?_⟩; replace BK113 := Aside0.mk (bk_ BK113.out hb); replace HB := Aside0.mk (bs_ HB.out hb); (try clear hb); obtain ⟨hcz_0, hcz_1, hfz_0, hfz_1⟩ := cz2_ BK113.out) | ((with_reducible refine gate_callee (f := 168) rfl ?_); refine gm_ (some 28) Try.func168 #[.agg #[.int .i64 a0_0, .int .i64 a0_1], .int .i64 (Int.tmod a1 a0_0), .int .i64 (wrap64 ((wrap64 (Int.tdiv a1 a0_0)) - 1))] rfl ?_; (with_reducible refine (spec_NodeAt.calls a0_0 a0_1 (Int.tmod a1 a0_0) (wrap64 ((wrap64 (Int.tdiv a1 a0_0)) - 1)) t115 _ A8.out).mono ?_); rintro e w_0 ⟨rfl, hb⟩; refine ⟨_, rfl, ?_⟩; replace BK113 := Aside0.mk (bk_ BK113.out hb); replace HB := Aside0.mk (bs_ HB.out hb); (try clear hb)) | ((with_reducible refine gate_callee (f := 168) rfl ?_); refine gm_ (some 35) Try.func168 #[.agg #[.int .i64 a0_0, .int .i64 a0_1], .int .i64 (wrap64 ((Int.tmod a1 a0_0) + 1)), .int .i64 (wrap64 (Int.tdiv a1 a0_0))] rfl ?_; (with_reducible refine (spec_NodeAt.calls a0_0 a0_1 (wrap64 ((Int.tmod a1 a0_0) + 1)) (wrap64 (Int.tdiv a1 a0_0)) t116 _ A15.out).mono ?_); rintro e w_0 ⟨rfl, hb⟩; refine ⟨_, rfl, ?_⟩; replace BK113 := Aside0.mk (bk_ BK113.out hb); replace HB := Aside0.mk (bs_ HB.out hb); (try clear hb)) | ((with_reducible refine gate_callee (f := 168) rfl ?_); refine gm_ (some 42) Try.func168 #[.agg #[.int .i64 a0_0, .int .i64 a0_1], .int .i64 (Int.tmod a1 a0_0), .int .i64 (wrap64 ((wrap64 (Int.tdiv a1 a0_0)) + 1))] rfl ?_; (with_reducible refine (spec_NodeAt.calls a0_0 a0_1 (Int.tmod a1 a0_0) (wrap64 ((wrap64 (Int.tdiv a1 a0_0)) + 1)) t117 _ A22.out).mono ?_); rintro e w_0 ⟨rfl, hb⟩; refine ⟨_, rfl, ?_⟩; replace BK113 := Aside0.mk (bk_ BK113.out hb); replace HB := Aside0.mk (bs_ HB.out hb); (try clear hb)) | ((with_reducible refine gate_callee (f := 168) rfl ?_); refine gm_ (some 49) Try.func168 #[.agg #[.int .i64 a0_0, .int .i64 a0_1], .int .i64 (wrap64 ((Int.tmod a1 a0_0) - 1)), .int .i64 (wrap64 (Int.tdiv a1 a0_0))] rfl ?_; (with_reducible refine (spec_NodeAt.calls a0_0 a0_1 (wrap64 ((Int.tmod a1 a0_0) - 1)) (wrap64 (Int.tdiv a1 a0_0)) t118 _ A29.out).mono ?_); rintro e w_0 ⟨rfl, hb⟩; refine ⟨_, rfl, ?_⟩; replace BK113 := Aside0.mk (bk_ BK113.out hb); replace HB := Aside0.mk (bs_ HB.out hb); (try clear hb)))
 go_ret
 exact ⟨fin_, bb_ HB.out⟩) : P := h
theorem spec_NextNode.calls (a0_0 : Int) (a0_1 : Int) (a1 : Int) (a2 : Int) (r : Int) (w : World) (h : spec_NextNode.f a0_0 a0_1 a1 a2 = some r) :
  Calls Try.prog 140 #[.agg #[.int .i64 a0_0, .int .i64 a0_1], .int .i64 a1, .int .i64 a2] w fun e w' => e = .returned (.int .i64 r) ∧ Below w.heap.size w w' := by
 have hu42 := Try.underlying42
 have HB := Aside0.mk (Below.refl w.heap.size w)
 have H : ((spec_l02Has.f a0_0 a0_1 a1).bind fun t114 => (if t114 = true then (if a0_0 = 0 then (none) else (if a2 = 0 then ((spec_NodeAt.f a0_0 a0_1 (Int.tmod a1 a0_0) (wrap64 ((wrap64 (Int.tdiv a1 a0_0)) - 1))).bind fun t115 => (some t115)) else (if a2 = 1 then ((spec_NodeAt.f a0_0 a0_1 (wrap64 ((Int.tmod a1 a0_0) + 1)) (wrap64 (Int.tdiv a1 a0_0))).bind fun t116 => (some t116)) else (if a2 = 2 then ((spec_NodeAt.f a0_0 a0_1 (Int.tmod a1 a0_0) (wrap64 ((wrap64 (Int.tdiv a1 a0_0)) + 1))).bind fun t117 => (some t117)) else (if a2 = 3 then ((spec_NodeAt.f a0_0 a0_1 (wrap64 ((Int.tmod a1 a0_0) - 1)) (wrap64 (Int.tdiv a1 a0_0))).bind fun t118 => (some t118)) else (if a2 = 4 then (some a1) else (some (-1)))))))) else (some (-1)))) = some r := h
 clear h
 replace H := Option.bind_eq_some_iff.mp H
 obtain ⟨t114, A40, H⟩ := H
 try dsimp only at H
 have A4 := Aside0.mk A40
 clear A40
 by_cases c5 : t114 = true
 ·subst c5
  rw [if_pos rfl] at H
  by_cases c6 : a0_0 = 0
  ·rw [if_pos c6] at H
   exact absurd H (by simp)
  rw [if_neg c6] at H
  have c6b0 : (a0_0 == 0) = false := beq_eq_false_iff_ne.mpr c6
  have c6b1 : (a0_0 != 0) = true := bne_iff_ne.mpr c6
  by_cases c7 : a2 = 0
  ·rw [if_pos c7] at H
   have c7b0 : (a2 == 0) = true := beq_iff_eq.mpr c7
   have c7b1 : (a2 != 0) = false := bne_eq_false_iff_eq.mpr c7
   clear c7
   replace H := Option.bind_eq_some_iff.mp H
   obtain ⟨t115, A80, H⟩ := H
   try dsimp only at H
   have A8 := Aside0.mk A80
   clear A80
   obtain rfl := Option.some.inj H
   exact spec_NextNode.e0
  rw [if_neg c7] at H
  have c7b0 : (a2 == 0) = false := beq_eq_false_iff_ne.mpr c7
  have c7b1 : (a2 != 0) = true := bne_iff_ne.mpr c7
  by_cases c14 : a2 = 1
  ·rw [if_pos c14] at H
   have c14b0 : (a2 == 1) = true := beq_iff_eq.mpr c14
   have c14b1 : (a2 != 1) = false := bne_eq_false_iff_eq.mpr c14
   clear c14
   replace H := Option.bind_eq_some_iff.mp H
   obtain ⟨t116, A150, H⟩ := H
   try dsimp only at H
   have A15 := Aside0.mk A150
   clear A150
   obtain rfl := Option.some.inj H
   exact spec_NextNode.e0
  rw [if_neg c14] at H
  have c14b0 : (a2 == 1) = false := beq_eq_false_iff_ne.mpr c14
  have c14b1 : (a2 != 1) = true := bne_iff_ne.mpr c14
  by_cases c21 : a2 = 2
  ·rw [if_pos c21] at H
   have c21b0 : (a2 == 2) = true := beq_iff_eq.mpr c21
   have c21b1 : (a2 != 2) = false := bne_eq_false_iff_eq.mpr c21
   clear c21
   replace H := Option.bind_eq_some_iff.mp H
   obtain ⟨t117, A220, H⟩ := H
   try dsimp only at H
   have A22 := Aside0.mk A220
   clear A220
   obtain rfl := Option.some.inj H
   exact spec_NextNode.e0
  rw [if_neg c21] at H
  have c21b0 : (a2 == 2) = false := beq_eq_false_iff_ne.mpr c21
  have c21b1 : (a2 != 2) = true := bne_iff_ne.mpr c21
  by_cases c28 : a2 = 3
  ·rw [if_pos c28] at H
   have c28b0 : (a2 == 3) = true := beq_iff_eq.mpr c28
   have c28b1 : (a2 != 3) = false := bne_eq_false_iff_eq.mpr c28
   clear c28
   replace H := Option.bind_eq_some_iff.mp H
   obtain ⟨t118, A290, H⟩ := H
   try dsimp only at H
   have A29 := Aside0.mk A290
   clear A290
   obtain rfl := Option.some.inj H
   exact spec_NextNode.e0
  rw [if_neg c28] at H
  have c28b0 : (a2 == 3) = false := beq_eq_false_iff_ne.mpr c28
  have c28b1 : (a2 != 3) = true := bne_iff_ne.mpr c28
  by_cases c35 : a2 = 4
  rotate_left
  ·rw [if_neg c35] at H
   have c35b0 : (a2 == 4) = false := beq_eq_false_iff_ne.mpr c35
   have c35b1 : (a2 != 4) = true := bne_iff_ne.mpr c35
   obtain rfl := Option.some.inj H
   exact spec_NextNode.e0
  rw [if_pos c35] at H
  have c35b0 : (a2 == 4) = true := beq_iff_eq.mpr c35
  have c35b1 : (a2 != 4) = false := bne_eq_false_iff_eq.mpr c35
  clear c35
  obtain rfl := Option.some.inj H
  exact spec_NextNode.e0
 ·replace c5 := Bool.eq_false_iff.mpr c5
  subst c5
  rw [if_neg (show ¬ (false = true) by decide)] at H
  obtain rfl := Option.some.inj H
  exact spec_NextNode.e0

/-! ### spec_l03Leads: function 166 -/
def spec_l03Leads.f (a0_0 : Int) (a0_1 : Int) (a1 : Int) : Option (Bool) := (spec_NodeCount.f a0_0 a0_1).bind fun t120 => ((spec_l01In.f a1 0 (wrap64 ((wrap64 (4 * t120)) - 1))).bind fun t121 => (if t121 = true then ((spec_NextNode.f a0_0 a0_1 (wrap64 (Int.tdiv a1 4)) (Int.tmod a1 4)).bind fun t122 => (some (decide (t122 ≥ 0)))) else (some false)))
theorem spec_l03Leads.e0 {P : Prop} (h : P := by
 go_enter Try.func166, Try.ntmps166
 go_wp2_with (first | ((with_reducible refine gate_dst (N := 2) rfl ?_); refine box_event ?hg (N := 2) ?hd (cs := #[.int .i64 a0_0, .int .i64 a0_1]) (t := 42) ?hr ?_; (case hd => rfl); (case hg => rfl); (case hr => first | (go_simp; done) | (go_simp; rfl)); intro gb119 hg w_0 hbox hb; have BK119 := Aside0.mk (hbox); have GW119 := Aside0.mk ((by rw [hg]; exact (bz_ HB.out) : w.heap.size ≤ gb119)); have GE119 := Aside0.mk ((by rw [hg]; exact (bz_ HB.out) : w.heap.size ≤ gb119)); replace HB := Aside0.mk (bs_ HB.out hb); clear hb hbox hg; obtain ⟨hcz_0, hcz_1, hfz_0, hfz_1⟩ := cz2_ BK119.out) | ((with_reducible refine gate_callee (f := 110) rfl ?_); refine gm_ (some 7) Try.func110 #[.agg #[.int .i64 a0_0, .int .i64 a0_1]] rfl ?_; (with_reducible refine (spec_NodeCount.calls a0_0 a0_1 t120 _ A3.out).mono ?_); rintro e w_0 ⟨rfl, hb⟩; refine ⟨_, rfl, ?_⟩; replace BK119 := Aside0.mk (bk_ BK119.out hb); replace HB := Aside0.mk (bs_ HB.out hb); (try clear hb)) | ((with_reducible refine gate_callee (f := 61) rfl ?_); refine gm_ (some 10) Try.func61 #[.int .i64 a1, .int .i64 0, .int .i64 (wrap64 ((wrap64 (4 * t120)) - 1))] rfl ?_; (with_reducible refine (spec_l01In.calls a1 0 (wrap64 ((wrap64 (4 * t120)) - 1)) _ _ A4.out).mono ?_); rintro e w' ⟨rfl, ⟨nd, rfl⟩⟩; refine ⟨_, rfl, ?_⟩; obtain ⟨hcz_0, hcz_1, hfz_0, hfz_1⟩ := cz2_ BK119.out) | (go_at_call 140; (with_reducible refine (spec_NextNode.calls a0_0 a0_1 (wrap64 (Int.tdiv a1 4)) (Int.tmod a1 4) t122 _ A6.out).mono ?_); rintro e w_0 ⟨rfl, hb⟩; replace BK119 := Aside0.mk (bk_ BK119.out hb); replace HB := Aside0.mk (bs_ HB.out hb); (try clear hb)))
 go_ret
 exact ⟨fin_, bb_ HB.out⟩) : P := h
theorem spec_l03Leads.calls (a0_0 : Int) (a0_1 : Int) (a1 : Int) (r : Bool) (w : World) (h : spec_l03Leads.f a0_0 a0_1 a1 = some r) :
  Calls Try.prog 166 #[.agg #[.int .i64 a0_0, .int .i64 a0_1], .int .i64 a1] w fun e w' => e = .returned (.bool r) ∧ Below w.heap.size w w' := by
 have hu42 := Try.underlying42
 have HB := Aside0.mk (Below.refl w.heap.size w)
 have H : ((spec_NodeCount.f a0_0 a0_1).bind fun t120 => ((spec_l01In.f a1 0 (wrap64 ((wrap64 (4 * t120)) - 1))).bind fun t121 => (if t121 = true then ((spec_NextNode.f a0_0 a0_1 (wrap64 (Int.tdiv a1 4)) (Int.tmod a1 4)).bind fun t122 => (some (decide (t122 ≥ 0)))) else (some false)))) = some r := h
 clear h
 replace H := Option.bind_eq_some_iff.mp H
 obtain ⟨t120, A30, H⟩ := H
 try dsimp only at H
 have A3 := Aside0.mk A30
 clear A30
 replace H := Option.bind_eq_some_iff.mp H
 obtain ⟨t121, A40, H⟩ := H
 try dsimp only at H
 have A4 := Aside0.mk A40
 clear A40
 by_cases c5 : t121 = true
 ·subst c5
  rw [if_pos rfl] at H
  replace H := Option.bind_eq_some_iff.mp H
  obtain ⟨t122, A60, H⟩ := H
  try dsimp only at H
  have A6 := Aside0.mk A60
  clear A60
  obtain rfl := Option.some.inj H
  exact spec_l03Leads.e0
 ·replace c5 := Bool.eq_false_iff.mpr c5
  subst c5
  rw [if_neg (show ¬ (false = true) by decide)] at H
  obtain rfl := Option.some.inj H
  exact spec_l03Leads.e0

end Go.Proofs.Ytimdefbpoddoaaa.PFnExactSafeRules
-- thin
