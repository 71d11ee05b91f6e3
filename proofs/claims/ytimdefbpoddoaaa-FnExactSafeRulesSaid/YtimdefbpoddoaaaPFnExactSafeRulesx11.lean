/- The law's functions as plain functions, and their calls. No condition. -/
import Derived.Test.YtimdefbpoddoaaaPFnExactSafeRulesx0
import Derived.Test.YtimdefbpoddoaaaPFnExactSafeRulesx2
import Derived.Test.YtimdefbpoddoaaaPFnExactSafeRulesx10
namespace Go.Proofs.Ytimdefbpoddoaaa.PFnExactSafeRules
open Go.RowKit Go.Proofs.YtimdefbpoddoaaaW.PrintWords Go.Proofs.YtimdefbpoddoaaaW.PrintLast Go.Proofs.YtimdefbpoddoaaaW.PrintMore
attribute [local go_sem] max2_int min2_int max_two min_two max_three min_three max_four min_four
set_option linter.unusedVariables false
set_option maxHeartbeats 8000000
set_option maxRecDepth 100000
set_option linter.unusedSimpArgs false

/-! ### spec_l05Port: function 121 -/
mutual
def spec_l05Port.j0 : Nat → Int → Int → Int → Int → Int → Option (Int)
 | 0, _, _, _, _, _ => none
 | k + 1, x1, x9, x10, x11, x12 => if x1 = 2 then (spec_l05Port.j1 k x9 x10 x11 x12 (x10 == x12)) else (if x1 = 3 then (if x11 < x9 then (spec_l05Port.j1 k x9 x10 x11 x12 true) else (spec_l05Port.j1 k x9 x10 x11 x12 (x10 == x12))) else (spec_l05Port.j1 k x9 x10 x11 x12 (x9 != x11)))
def spec_l05Port.j1 : Nat → Int → Int → Int → Int → Bool → Option (Int)
 | 0, _, _, _, _, _ => none
 | k + 1, x9, x10, x11, x12, x13 => if x13 = true then ((spec_l05Column.f x9 x11).bind fun t331 => (some t331)) else ((spec_l05Row.f x10 x12).bind fun t332 => (some t332))
end
def spec_l05Port.f (k : Nat) (a0_0 : Int) (a0_1 : Int) (a1 : Int) (a2 : Int) (a3 : Int) : Option (Int) := if a0_0 = 0 then (none) else (if a2 = a3 then (some 4) else (if a1 = 4 then (spec_l05Port.j0 k (wrap64 (1 + (Int.tmod a3 2))) (Int.tmod a2 a0_0) (wrap64 (Int.tdiv a2 a0_0)) (Int.tmod a3 a0_0) (wrap64 (Int.tdiv a3 a0_0))) else (spec_l05Port.j0 k a1 (Int.tmod a2 a0_0) (wrap64 (Int.tdiv a2 a0_0)) (Int.tmod a3 a0_0) (wrap64 (Int.tdiv a3 a0_0)))))
theorem spec_l05Port.mono_l : ∀ k, (∀ y0 y1 y2 y3 y4, LeO (spec_l05Port.j0 k y0 y1 y2 y3 y4) (spec_l05Port.j0 (k + 1) y0 y1 y2 y3 y4)) ∧ (∀ y0 y1 y2 y3 y4, LeO (spec_l05Port.j1 k y0 y1 y2 y3 y4) (spec_l05Port.j1 (k + 1) y0 y1 y2 y3 y4))
 | 0 => ⟨fun _ _ _ _ _ r h => by simp [spec_l05Port.j0] at h, fun _ _ _ _ _ r h => by simp [spec_l05Port.j1] at h⟩
 | k + 1 => by
  obtain ⟨ih0, ih1⟩ := spec_l05Port.mono_l k
  refine ⟨?_, ?_⟩
  ·intro y0 y1 y2 y3 y4
   unfold spec_l05Port.j0
   repeat' first
   | (with_reducible exact ih0 _ _ _ _ _)
   | (with_reducible exact ih1 _ _ _ _ _)
   | (with_reducible exact LeO.refl _)
   | (with_reducible exact LeO.none _)
   | (with_reducible refine LeO.ite ?_ ?_)
   | (with_reducible refine LeO.bind ?_ (fun _ => ?_))
   | exact ih0 _ _ _ _ _
   | exact ih1 _ _ _ _ _
   | exact LeO.none _
   | refine LeO.ite ?_ ?_
   | refine LeO.bind ?_ (fun _ => ?_)
  ·intro y0 y1 y2 y3 y4
   unfold spec_l05Port.j1
   repeat' first
   | (with_reducible exact ih0 _ _ _ _ _)
   | (with_reducible exact ih1 _ _ _ _ _)
   | (with_reducible exact LeO.refl _)
   | (with_reducible exact LeO.none _)
   | (with_reducible refine LeO.ite ?_ ?_)
   | (with_reducible refine LeO.bind ?_ (fun _ => ?_))
   | exact ih0 _ _ _ _ _
   | exact ih1 _ _ _ _ _
   | exact LeO.none _
   | refine LeO.ite ?_ ?_
   | refine LeO.bind ?_ (fun _ => ?_)
theorem spec_l05Port.mono : ∀ a0 a1 a2 a3 a4 k, LeO (spec_l05Port.f k a0 a1 a2 a3 a4) (spec_l05Port.f (k + 1) a0 a1 a2 a3 a4) := by
 intro a0 a1 a2 a3 a4 k
 obtain ⟨ih0, ih1⟩ := spec_l05Port.mono_l k
 unfold spec_l05Port.f
 repeat' first
   | (with_reducible exact ih0 _ _ _ _ _)
   | (with_reducible exact ih1 _ _ _ _ _)
   | (with_reducible exact LeO.refl _)
   | (with_reducible exact LeO.none _)
   | (with_reducible refine LeO.ite ?_ ?_)
   | (with_reducible refine LeO.bind ?_ (fun _ => ?_))
   | exact ih0 _ _ _ _ _
   | exact ih1 _ _ _ _ _
   | exact LeO.none _
   | refine LeO.ite ?_ ?_
   | refine LeO.bind ?_ (fun _ => ?_)
theorem spec_l05Port.e0 {P : Prop} (h : P := by
 go_wp2
 go_meet
 case rel => exact ⟨_, (((wrap64 (Int.tdiv a2 a0_0)) == (wrap64 (Int.tdiv a3 a0_0)))), ef_, H', ⟨by have := HJ8.out; first | omega | exact Nat.le_refl _⟩, ⟨bq_ BK330.out⟩, ⟨bb_ HB.out⟩⟩) : P := h
theorem spec_l05Port.calls (k : Nat) (a0_0 : Int) (a0_1 : Int) (a1 : Int) (a2 : Int) (a3 : Int) (r : Int) (w : World) (h : spec_l05Port.f k a0_0 a0_1 a1 a2 a3 = some r) :
  Calls Try.prog 121 #[.agg #[.int .i64 a0_0, .int .i64 a0_1], .int .i64 a1, .int .i64 a2, .int .i64 a3] w fun e w' => e = .returned (.int .i64 r) ∧ Below w.heap.size w w' := by
 have hu42 := Try.underlying42
 have HB := Aside0.mk (Below.refl w.heap.size w)
 have H : (if a0_0 = 0 then (none) else (if a2 = a3 then (some 4) else (if a1 = 4 then (spec_l05Port.j0 k (wrap64 (1 + (Int.tmod a3 2))) (Int.tmod a2 a0_0) (wrap64 (Int.tdiv a2 a0_0)) (Int.tmod a3 a0_0) (wrap64 (Int.tdiv a3 a0_0))) else (spec_l05Port.j0 k a1 (Int.tmod a2 a0_0) (wrap64 (Int.tdiv a2 a0_0)) (Int.tmod a3 a0_0) (wrap64 (Int.tdiv a3 a0_0)))))) = some r := h
 clear h
 by_cases c5 : a0_0 = 0
 ·rw [if_pos c5] at H
  exact absurd H (by simp)
 ·rw [if_neg c5] at H
  have c5b0 : (a0_0 == 0) = false := beq_eq_false_iff_ne.mpr c5
  have c5b1 : (a0_0 != 0) = true := bne_iff_ne.mpr c5
  by_cases c6 : a2 = a3
  ·rw [if_pos c6] at H
   have c6b0 : (a2 == a3) = true := beq_iff_eq.mpr c6
   have c6b1 : (a2 != a3) = false := bne_eq_false_iff_eq.mpr c6
   clear c6
   obtain rfl := Option.some.inj H
   go_enter Try.func121, Try.ntmps121
   go_wp2_with (first | ((with_reducible refine gate_dst (N := 4) rfl ?_); refine box_event ?hg (N := 4) ?hd (cs := #[.int .i64 a0_0, .int .i64 a0_1]) (t := 42) ?hr ?_; (case hd => rfl); (case hg => rfl); (case hr => first | (go_simp; done) | (go_simp; rfl)); intro gb330 hg w7 hbox hb; have BK330 := Aside0.mk (hbox); have GW330 := Aside0.mk ((by rw [hg]; exact (bz_ HB.out) : w.heap.size ≤ gb330)); have GE330 := Aside0.mk ((by rw [hg]; exact (bz_ HB.out) : w.heap.size ≤ gb330)); replace HB := Aside0.mk (bs_ HB.out hb); clear hb hbox hg; obtain ⟨hcz8_0, hcz8_1, hfz8_0, hfz8_1⟩ := cz2_ BK330.out))
   go_ret
   exact ⟨fin_, bb_ HB.out⟩
  ·rw [if_neg c6] at H
   have c6b0 : (a2 == a3) = false := beq_eq_false_iff_ne.mpr c6
   have c6b1 : (a2 != a3) = true := bne_iff_ne.mpr c6
   have HC9 := Aside0.mk H
   clear H
   go_enter Try.func121, Try.ntmps121
   go_upto_if 34 with (first | ((with_reducible refine gate_dst (N := 4) rfl ?_); refine box_event ?hg (N := 4) ?hd (cs := #[.int .i64 a0_0, .int .i64 a0_1]) (t := 42) ?hr ?_; (case hd => rfl); (case hg => rfl); (case hr => first | (go_simp; done) | (go_simp; rfl)); intro gb330 hg w10 hbox hb; have BK330 := Aside0.mk (hbox); have GW330 := Aside0.mk ((by rw [hg]; exact (bz_ HB.out) : w.heap.size ≤ gb330)); have GE330 := Aside0.mk ((by rw [hg]; exact (bz_ HB.out) : w.heap.size ≤ gb330)); replace HB := Aside0.mk (bs_ HB.out hb); clear hb hbox hg; obtain ⟨hcz11_0, hcz11_1, hfz11_0, hfz11_1⟩ := cz2_ BK330.out))
   (try simp only [Act.put, List.setIfInBounds_toArray, List.set_cons_zero, List.set_cons_succ])
   go_cut [1] (fun v1 wc => ∃ (kq : Nat) (x1_8 : Int), v1 = .int .i64 x1_8 ∧ Aside0 (spec_l05Port.j0 kq x1_8 (Int.tmod a2 a0_0) (wrap64 (Int.tdiv a2 a0_0)) (Int.tmod a3 a0_0) (wrap64 (Int.tdiv a3 a0_0)) = some r) ∧ Aside0 (kq ≤ k) ∧ Aside0 (wc.heap[gb330]? = some (.cells #[.int .i64 a0_0, .int .i64 a0_1] 42 (0, 0))) ∧ Aside0 (Below w.heap.size w wc))
   case first =>
    have H := HC9.out
    clear HC9
    by_cases c12 : a1 = 4
    rotate_left
    ·rw [if_neg c12] at H
     have c12b0 : (a1 == 4) = false := beq_eq_false_iff_ne.mpr c12
     have c12b1 : (a1 != 4) = true := bne_iff_ne.mpr c12
     (first | rw [c12b0] | (simp only [i64_w, i32_w]; rw [c12b0]) | skip)
     have H' := Aside0.mk H
     clear H
     go_wp2
     go_meet
     case rel => exact ⟨_, (a1), ef_, H', ⟨kq_⟩, ⟨bq_ BK330.out⟩, ⟨bb_ HB.out⟩⟩
    rw [if_pos c12] at H
    have c12b0 : (a1 == 4) = true := beq_iff_eq.mpr c12
    have c12b1 : (a1 != 4) = false := bne_eq_false_iff_eq.mpr c12
    clear c12
    (first | rw [c12b0] | (simp only [i64_w, i32_w]; rw [c12b0]) | skip)
    have H' := Aside0.mk H
    clear H
    go_wp2
    go_meet
    case rel => exact ⟨_, (wrap64 (1 + (Int.tmod a3 2))), ef_, H', ⟨kq_⟩, ⟨bq_ BK330.out⟩, ⟨bb_ HB.out⟩⟩
   case rest =>
    clear HC9
    try clear c5
    try clear c5b0
    try clear c5b1
    try clear c6
    try clear c6b0
    try clear c6b1
    try clear hcz11_0 hcz11_1 hfz11_0 hfz11_1
    obtain ⟨kq, x1_8, rfl, HA, HJ8, BK330, HB⟩ := hcut
    cases kq with
    | zero => exact absurd HA.out (by simp [spec_l05Port.j0])
    | succ kj8 =>
     have H := HA.out
     clear HA
     simp only [spec_l05Port.j0] at H
     have HC13 := Aside0.mk H
     clear H
     go_upto_block 0 with (fail)
     go_cut [13] (fun v13 wc => ∃ (kq : Nat) (x13_12 : Bool), v13 = .bool x13_12 ∧ Aside0 (spec_l05Port.j1 kq (Int.tmod a2 a0_0) (wrap64 (Int.tdiv a2 a0_0)) (Int.tmod a3 a0_0) (wrap64 (Int.tdiv a3 a0_0)) x13_12 = some r) ∧ Aside0 (kq ≤ kj8) ∧ Aside0 (wc.heap[gb330]? = some (.cells #[.int .i64 a0_0, .int .i64 a0_1] 42 (0, 0))) ∧ Aside0 (Below w.heap.size w wc))
     case first =>
      have H := HC13.out
      clear HC13
      by_cases c14 : x1_8 = 2
      ·rw [if_pos c14] at H
       have c14b0 : (x1_8 == 2) = true := beq_iff_eq.mpr c14
       have c14b1 : (x1_8 != 2) = false := bne_eq_false_iff_eq.mpr c14
       clear c14
       (first | rw [c14b0] | (simp only [i64_w, i32_w]; rw [c14b0]) | skip)
       have H' := Aside0.mk H
       clear H
       exact spec_l05Port.e0
      rw [if_neg c14] at H
      have c14b0 : (x1_8 == 2) = false := beq_eq_false_iff_ne.mpr c14
      have c14b1 : (x1_8 != 2) = true := bne_iff_ne.mpr c14
      (first | rw [c14b0] | (simp only [i64_w, i32_w]; rw [c14b0]) | skip)
      by_cases c15 : x1_8 = 3
      rotate_left
      ·rw [if_neg c15] at H
       have c15b0 : (x1_8 == 3) = false := beq_eq_false_iff_ne.mpr c15
       have c15b1 : (x1_8 != 3) = true := bne_iff_ne.mpr c15
       have H' := Aside0.mk H
       clear H
       go_wp2
       go_meet
       case rel => exact ⟨_, (((Int.tmod a2 a0_0) != (Int.tmod a3 a0_0))), ef_, H', ⟨by have := HJ8.out; first | omega | exact Nat.le_refl _⟩, ⟨bq_ BK330.out⟩, ⟨bb_ HB.out⟩⟩
      rw [if_pos c15] at H
      have c15b0 : (x1_8 == 3) = true := beq_iff_eq.mpr c15
      have c15b1 : (x1_8 != 3) = false := bne_eq_false_iff_eq.mpr c15
      clear c15
      by_cases c16 : (Int.tmod a3 a0_0) < (Int.tmod a2 a0_0)
      rotate_left
      ·rw [if_neg c16] at H
       have c16b0 : decide ((Int.tmod a3 a0_0) < (Int.tmod a2 a0_0)) = false := decide_eq_false c16
       clear c16
       have H' := Aside0.mk H
       clear H
       exact spec_l05Port.e0
      rw [if_pos c16] at H
      have c16b0 : decide ((Int.tmod a3 a0_0) < (Int.tmod a2 a0_0)) = true := decide_eq_true c16
      clear c16
      have H' := Aside0.mk H
      clear H
      go_wp2
      go_meet
      case rel => exact ⟨_, (true), ef_, H', ⟨by have := HJ8.out; first | omega | exact Nat.le_refl _⟩, ⟨bq_ BK330.out⟩, ⟨bb_ HB.out⟩⟩
     case rest =>
      clear HC13
      try clear c5
      try clear c5b0
      try clear c5b1
      try clear c6
      try clear c6b0
      try clear c6b1
      try clear hcz11_0 hcz11_1 hfz11_0 hfz11_1
      obtain ⟨kq, x13_12, rfl, HA, HJ12, BK330, HB⟩ := hcut
      cases kq with
      | zero => exact absurd HA.out (by simp [spec_l05Port.j1])
      | succ kj12 =>
       have H := HA.out
       clear HA
       simp only [spec_l05Port.j1] at H
       by_cases c17 : x13_12 = true
       ·subst c17
        rw [if_pos rfl] at H
        replace H := Option.bind_eq_some_iff.mp H
        obtain ⟨t331, A180, H⟩ := H
        try dsimp only at H
        have A18 := Aside0.mk A180
        clear A180
        obtain rfl := Option.some.inj H
        go_wp2_with (first | ((with_reducible refine gate_callee (f := 148) rfl ?_); refine gm_ (some 60) Try.func148 #[.int .i64 (Int.tmod a2 a0_0), .int .i64 (Int.tmod a3 a0_0)] rfl ?_; (with_reducible refine (spec_l05Column.calls (Int.tmod a2 a0_0) (Int.tmod a3 a0_0) t331 _ A18.out).mono ?_); rintro e w' ⟨rfl, ⟨nd, rfl⟩⟩; refine ⟨_, rfl, ?_⟩))
        go_ret
        exact ⟨fin_, bb_ HB.out⟩
       ·replace c17 := Bool.eq_false_iff.mpr c17
        subst c17
        rw [if_neg (show ¬ (false = true) by decide)] at H
        replace H := Option.bind_eq_some_iff.mp H
        obtain ⟨t332, A190, H⟩ := H
        try dsimp only at H
        have A19 := Aside0.mk A190
        clear A190
        obtain rfl := Option.some.inj H
        go_wp2_with (first | ((with_reducible refine gate_callee (f := 149) rfl ?_); refine gm_ (some 63) Try.func149 #[.int .i64 (wrap64 (Int.tdiv a2 a0_0)), .int .i64 (wrap64 (Int.tdiv a3 a0_0))] rfl ?_; (with_reducible refine (spec_l05Row.calls (wrap64 (Int.tdiv a2 a0_0)) (wrap64 (Int.tdiv a3 a0_0)) t332 _ A19.out).mono ?_); rintro e w' ⟨rfl, ⟨nd, rfl⟩⟩; refine ⟨_, rfl, ?_⟩))
        go_ret
        exact ⟨fin_, bb_ HB.out⟩

/-! ### spec_l05Make: function 82 -/
def spec_l05Make.l0 : Nat → Int → Int → Int → Int → Int → List Int → Option (List Int)
 | 0, _, _, _, _, _, _ => none
 | k + 1, x1, x6, x7, x334000, x334001, x336000 => if x7 < (wrap64 (x6 * x6)) then (if x6 = 0 then (none) else ((spec_l05Port.f k x334000 x334001 x1 (wrap64 (Int.tdiv x7 x6)) (Int.tmod x7 x6)).bind fun t337 => (if x336000.length < 17592186044416 then (spec_l05Make.l0 k x1 x6 (wrap64 (x7 + 1)) x334000 x334001 (x336000 ++ [t337])) else (none)))) else (some x336000)
def spec_l05Make.f (k : Nat) (a0_0 : Int) (a0_1 : Int) (a1 : Int) : Option (List Int) := (spec_NodeCount.f a0_0 a0_1).bind fun t336 => (spec_l05Make.l0 k a1 t336 0 a0_0 a0_1 ([] : List Int))
theorem spec_l05Make.mono_l : ∀ k, (∀ y0 y1 y2 y3 y4 y5, LeO (spec_l05Make.l0 k y0 y1 y2 y3 y4 y5) (spec_l05Make.l0 (k + 1) y0 y1 y2 y3 y4 y5))
 | 0 => fun _ _ _ _ _ _ r h => by simp [spec_l05Make.l0] at h
 | k + 1 => by
  have ih0 := spec_l05Make.mono_l k
  ·intro y0 y1 y2 y3 y4 y5
   unfold spec_l05Make.l0
   repeat' first
   | (with_reducible exact ih0 _ _ _ _ _ _)
   | (with_reducible exact spec_l05Port.mono _ _ _ _ _ _)
   | (with_reducible exact LeO.refl _)
   | (with_reducible exact LeO.none _)
   | (with_reducible refine LeO.ite ?_ ?_)
   | (with_reducible refine LeO.bind ?_ (fun _ => ?_))
   | exact ih0 _ _ _ _ _ _
   | exact spec_l05Port.mono _ _ _ _ _ _
   | exact LeO.none _
   | refine LeO.ite ?_ ?_
   | refine LeO.bind ?_ (fun _ => ?_)
theorem spec_l05Make.mono : ∀ a0 a1 a2 k, LeO (spec_l05Make.f k a0 a1 a2) (spec_l05Make.f (k + 1) a0 a1 a2) := by
 intro a0 a1 a2 k
 have ih0 := spec_l05Make.mono_l k
 unfold spec_l05Make.f
 repeat' first
   | (with_reducible exact ih0 _ _ _ _ _ _)
   | (with_reducible exact spec_l05Port.mono _ _ _ _ _ _)
   | (with_reducible exact LeO.refl _)
   | (with_reducible exact LeO.none _)
   | (with_reducible refine LeO.ite ?_ ?_)
   | (with_reducible refine LeO.bind ?_ (fun _ => ?_))
   | exact ih0 _ _ _ _ _ _
   | exact spec_l05Port.mono _ _ _ _ _ _
   | exact LeO.none _
   | refine LeO.ite ?_ ?_
   | refine LeO.bind ?_ (fun _ => ?_)
def spec_l05Make.T6 : Bool × List (List Nat × List Nat) := (true, [([], []), ([0], [0]), ([], []), ([], []), ([], []), ([], []), ([4, 5], [4, 5]), ([], []), ([], []), ([7, 8], [7, 8]), ([2, 3, 6, 9], [2, 3, 6, 9]), ([10], [10]), ([1, 11, 10], [1, 11]), ([0, 1, 2, 3, 4, 5, 6, 7, 8, 9, 10, 11, 12], []), ([13, 12, 12, 0, 1, 2, 3, 4, 5, 6, 7, 8, 9, 10, 11, 12], [12, 13])])
def spec_l05Make.B6 : List Nat := [0, 1, 0, 0, 0, 0, 48, 0, 0, 384, 1020, 2044, 4095, 8191, 16383]
theorem spec_l05Make.tab6 : rtab .any (opsOf Try.f82 6) = spec_l05Make.T6 := by kernel_rfl
theorem spec_l05Make.bits6 : waitsOk spec_l05Make.T6.2 spec_l05Make.B6 = true := by kernel_rfl
theorem spec_l05Make.calls (k : Nat) (a0_0 : Int) (a0_1 : Int) (a1 : Int) (r : List Int) (w : World) (h : spec_l05Make.f k a0_0 a0_1 a1 = some r) :
  Calls Try.prog 82 #[.agg #[.int .i64 a0_0, .int .i64 a0_1], .int .i64 a1] w fun e w' => ∃ v0_ : Value, e = .returned (.agg #[v0_]) ∧ Kd.R (Kd.int .i64) 3 w' w.heap.size (fun _ => True) v0_ r ∧ Below w.heap.size w w' := by
 have hu42 := Try.underlying42
 have hu46 := Try.underlying46
 have HB := Aside0.mk (Below.refl w.heap.size w)
 have H : ((spec_NodeCount.f a0_0 a0_1).bind fun t336 => (spec_l05Make.l0 k a1 t336 0 a0_0 a0_1 ([] : List Int))) = some r := h
 clear h
 replace H := Option.bind_eq_some_iff.mp H
 obtain ⟨t336, A30, H⟩ := H
 try dsimp only at H
 have A3 := Aside0.mk A30
 clear A30
 have H' := Aside0.mk H
 clear H
 go_enter Try.func82, Try.ntmps82
 go_wp2_with (first | ((with_reducible refine gate_dst (N := 2) rfl ?_); refine box_event ?hg (N := 2) ?hd (cs := #[.int .i64 a0_0, .int .i64 a0_1]) (t := 42) ?hr ?_; (case hd => rfl); (case hg => rfl); (case hr => first | (go_simp; done) | (go_simp; rfl)); intro gb333 hg w4 hbox hb; have BK333 := Aside0.mk (hbox); have GW333 := Aside0.mk ((by rw [hg]; exact (bz_ HB.out) : w.heap.size ≤ gb333)); have GE333 := Aside0.mk ((by rw [hg]; exact (bz_ HB.out) : w.heap.size ≤ gb333)); replace HB := Aside0.mk (bs_ HB.out hb); clear hb hbox hg) | ((with_reducible refine gate_dst (N := 4) rfl ?_); refine box_event ?hg (N := 4) ?hd (cs := #[.slice none 0 0]) (t := 46) ?hr ?_; (case hd => rfl); (case hg => rfl); (case hr => first | (go_simp; done) | (go_simp; rfl)); intro gb334 hg w5 hbox hb; have BK334 := Aside0.mk (hbox); have GW334 := Aside0.mk ((by rw [hg]; exact (bz_ HB.out) : w.heap.size ≤ gb334)); have GE334 := Aside0.mk ((by rw [hg]; exact (bz_ HB.out) : w.heap.size ≤ gb334)); replace HB := Aside0.mk (bs_ HB.out hb); have NB333_334 := Aside0.mk ((by rw [hg]; exact Nat.ne_of_lt (bl_ BK333.out) : gb333 ≠ gb334)); have NB334_333 := Aside0.mk ((by rw [hg]; exact Nat.ne_of_gt (bl_ BK333.out) : gb334 ≠ gb333)); replace BK333 := Aside0.mk (bk_ BK333.out hb); clear hb hbox hg) | ((with_reducible refine gate_dst (N := 5) rfl ?_); refine box_event ?hg (N := 5) ?hd (cs := #[.slice none 0 0]) (t := 46) ?hr ?_; (case hd => rfl); (case hg => rfl); (case hr => first | (go_simp; done) | (go_simp; rfl)); intro gb335 hg w6 hbox hb; have BK335 := Aside0.mk (hbox); have GW335 := Aside0.mk ((by rw [hg]; exact (bz_ HB.out) : w.heap.size ≤ gb335)); have GE335 := Aside0.mk ((by rw [hg]; exact (bz_ HB.out) : w.heap.size ≤ gb335)); replace HB := Aside0.mk (bs_ HB.out hb); have NB333_335 := Aside0.mk ((by rw [hg]; exact Nat.ne_of_lt (bl_ BK333.out) : gb333 ≠ gb335)); have NB335_333 := Aside0.mk ((by rw [hg]; exact Nat.ne_of_gt (bl_ BK333.out) : gb335 ≠ gb333)); replace BK333 := Aside0.mk (bk_ BK333.out hb); have NB334_335 := Aside0.mk ((by rw [hg]; exact Nat.ne_of_lt (bl_ BK334.out) : gb334 ≠ gb335)); have NB335_334 := Aside0.mk ((by rw [hg]; exact Nat.ne_of_gt (bl_ BK334.out) : gb335 ≠ gb334)); replace BK334 := Aside0.mk (bk_ BK334.out hb); clear hb hbox hg; have hnb7 := NB335_333.out; have hnc7 := NB333_335.out; have hnb8 := NB335_334.out; have hnc8 := NB334_335.out; obtain ⟨hcz9_0, hfz9_0⟩ := cz1_ BK335.out; have hnb10 := NB333_334.out; have hnc10 := NB334_333.out; obtain ⟨hcz11_0, hcz11_1, hfz11_0, hfz11_1⟩ := cz2_ BK333.out) | ((with_reducible refine gate_callee (f := 110) rfl ?_); refine gm_ (some 10) Try.func110 #[.agg #[.int .i64 a0_0, .int .i64 a0_1]] rfl ?_; (with_reducible refine (spec_NodeCount.calls a0_0 a0_1 t336 _ A3.out).mono ?_); rintro e w12 ⟨rfl, hb⟩; refine ⟨_, rfl, ?_⟩; replace BK333 := Aside0.mk (blk_below (bf_ BK333.out) hb); replace BK334 := Aside0.mk (blk_below (bf_ BK334.out) hb); replace BK335 := Aside0.mk (blk_below (g := gb335) (o := .cells #[.slice none 0 0] 46 (0, 0)) (by (with_reducible repeat (first | refine blk_drewN ?_ _ | refine blk_drew ?_ | refine blk_alloc ?_ _)); refine blk_put (cs := #[.slice none 0 0]) ?_ 0 _ rfl; (with_reducible repeat (first | refine blk_drewN ?_ _ | refine blk_drew ?_ | refine blk_alloc ?_ _)); exact BK335.out) hb); replace HB := Aside0.mk (bs_ HB.out hb); (try clear hb)))
 go_loopg [7] k (fun kq v7 w' => ∃ (x7_1 : Int) (x336000_1 : List Int) (u336000 : Value), v7 = .int .i64 x7_1 ∧ Aside0 (spec_l05Make.l0 kq a1 t336 x7_1 a0_0 a0_1 x336000_1 = some r) ∧ Aside0 (kq ≤ k) ∧ Aside0 (Kd.R (Kd.int .i64) 3 w' w.heap.size (fun _ => True) u336000 x336000_1) ∧ Aside0 (w'.heap[gb333]? = some (.cells #[.int .i64 a0_0, .int .i64 a0_1] 42 (0, 0))) ∧ Aside0 (w'.heap[gb334]? = some (.cells #[(.slice none 0 0)] 46 (0, 0))) ∧ Aside0 (w'.heap[gb335]? = some (.cells #[u336000] 46 (0, 0))) ∧ Aside0 (Below w.heap.size w w'))
 case atStart => exact ⟨(0), (([] : List Int)), (.slice none 0 0), ef_, H', ⟨Nat.le_refl _⟩, ⟨by first | exact Kd.R_nil _ _ _ _ _ | exact Kd.N_nil _ _ _ _ _ | exact Kd.V_nil _ _ _ _ _ | exact Kd.Q_nil _ _ _ _ _ | exact Kd.S_nil _ _ _ _ _⟩, ⟨bq_ BK333.out⟩, ⟨bq_ BK334.out⟩, ⟨bq_ BK335.out⟩, ⟨bb_ HB.out⟩⟩
 clear H'
 try clear hcz11_0 hcz11_1 hfz11_0 hfz11_1
 try clear hcz9_0 hfz9_0
 obtain ⟨x7_1, x336000_1, u336000, rfl, HA, HK1, HO_336000, BK333, BK334, BK335, HB⟩ := hrel
 obtain _ | k1 := gk
 ·exact absurd HA.out (by simp [spec_l05Make.l0])
 have H := HA.out
 clear HA
 simp only [spec_l05Make.l0] at H
 by_cases c13 : x7_1 < (wrap64 (t336 * t336))
 rotate_left
 ·rw [if_neg c13] at H
  have c13b0 : decide (x7_1 < (wrap64 (t336 * t336))) = false := decide_eq_false c13
  clear c13
  obtain rfl := Option.some.inj H
  have hnb22 := NB335_333.out
  have hnc22 := NB333_335.out
  have hnb23 := NB335_334.out
  have hnc23 := NB334_335.out
  obtain ⟨hcz24_0, hfz24_0⟩ := cz1_ BK335.out
  obtain ⟨Ao25, co25, eo25⟩ := Kd.R_slice HO_336000.out
  subst eo25
  have hnb26 := NB334_333.out
  have hnc26 := NB333_334.out
  obtain ⟨hcz27_0, hfz27_0⟩ := cz1_ BK334.out
  go_wp2
  refine bodyPost_ret (results_cell_row rfl _ _ gb334 46 #[.slice Ao25 x336000_1.length co25] (0, 0) _ rfl (by (with_reducible repeat (first | refine blk_drewN ?_ _ | refine blk_drew ?_ | refine blk_alloc ?_ _)); refine blk_put (cs := #[.slice none 0 0]) ?_ 0 _ rfl; (with_reducible repeat (first | refine blk_drewN ?_ _ | refine blk_drew ?_ | refine blk_alloc ?_ _)); exact BK334.out) Try.underlying46 rfl (by kernel_rfl)) rfl ?_
  exact ⟨_, fin_, rm_ (Kd.R_types HO_336000.out BK334.out (by decide)) (fun _ hk => trivial), bb_ HB.out⟩
 rw [if_pos c13] at H
 have c13b0 : decide (x7_1 < (wrap64 (t336 * t336))) = true := decide_eq_true c13
 clear c13
 by_cases c14 : t336 = 0
 ·rw [if_pos c14] at H
  exact absurd H (by simp)
 rw [if_neg c14] at H
 have c14b0 : (t336 == 0) = false := beq_eq_false_iff_ne.mpr c14
 have c14b1 : (t336 != 0) = true := bne_iff_ne.mpr c14
 replace H := Option.bind_eq_some_iff.mp H
 obtain ⟨t337, A150, H⟩ := H
 try dsimp only at H
 have A15 := Aside0.mk A150
 clear A150
 by_cases c16 : x336000_1.length < 17592186044416
 rotate_left
 ·rw [if_neg c16] at H
  exact absurd H (by simp)
 rw [if_pos c16] at H
 have LMc16 := Aside0.mk c16
 clear c16
 obtain ⟨y338, hy338⟩ : ∃ y_ : List Int, y_ = (x336000_1 ++ [t337]) := ⟨_, rfl⟩
 replace H : (spec_l05Make.l0 k1 a1 t336 (wrap64 (x7_1 + 1)) a0_0 a0_1 y338) = some r := by first | (rw [hy338]; with_reducible exact H) | (have H2_ := (Option.bind_some _ _).symm.trans H; rw [hy338]; with_reducible exact H2_) | (have H2_ := (Option.bind_some _ _).symm.trans H; with_reducible exact H2_) | with_reducible exact H | (rw [hy338]; exact H) | exact H
 have Ny338 := Aside0.mk hy338
 clear hy338
 have H' := Aside0.mk H
 clear H
 try go_wp2
 have n0_ := Aside0.mk (Kd.R_drew HO_336000.out)
 have n1_ := Aside0.mk (blk_drew BK333.out)
 have n2_ := Aside0.mk (blk_drew BK334.out)
 have n3_ := Aside0.mk (blk_drew BK335.out)
 have n4_ := Aside0.mk (below_drew1 HB.out)
 clear HO_336000 BK333 BK334 BK335 HB
 have HO_336000 := n0_
 have BK333 := n1_
 have BK334 := n2_
 have BK335 := n3_
 have HB := n4_
 clear n0_ n1_ n2_ n3_ n4_
 refine start_ (n := 15) (S := fun w' => w'.cell? ⟨gb335, 0, none⟩ = some (u336000) ∧ w'.cell? ⟨gb333, 0, none⟩ = some (.int .i64 a0_0) ∧ w'.cell? ⟨gb333, 1, none⟩ = some (.int .i64 a0_1)) (ds := [14]) #[false, false, false, false, false, false, false, false, false, false, false, false, false, false, false] (by kernel_rfl) rfl rfl ⟨(blk_cell BK335.out 0).trans rfl, (blk_cell BK333.out 0).trans rfl, (blk_cell BK333.out 1).trans rfl⟩ (fun hHeld => ?_); refine with_tabW spec_l05Make.tab6 spec_l05Make.bits6 (fun HT_ HW_ => ?_)
 generalize wr.drew = w17 at HO_336000 BK333 BK334 BK335 HB hHeld ⊢
 refine pu_ 0 18 (bt_ 15 1) HT_ ?_
 refine pu_ 3 21 (bt_ 15 9) HT_ ?_
 refine pu_ 4 22 (bt_ 15 25) HT_ ?_
 refine pu_ 5 23 (bt_ 15 57) HT_ ?_
 refine pu_ 6 24 (bt_ 15 121) HT_ ?_
 refine pu_ 7 25 (bt_ 15 249) HT_ ?_
 refine pu_ 8 26 (bt_ 15 505) HT_ ?_
 refine pu_ 9 27 (bt_ 15 1017) HT_ ?_
 refine take_ (i := 1) (N := some 19) (v := ?_) (a' := ?_) (bt_ 15 1019) rfl rfl (take_ofW HT_.out HW_.out (by kernel_rfl)) (fun _ _ _ h => h) (Or.inl ⟨by rfl, ?_⟩) hHeld ?_ ?_
 rotate_left
 ·rintro w' ⟨s0, s1, s2⟩
  go_simp
  with_reducible rfl
 rotate_left
 ·simp only [Act.put, List.setIfInBounds_toArray, List.set_cons_zero, List.set_cons_succ, i64_w, i32_w]
  rfl
 refine take_ (i := 2) (N := some 20) (v := ?_) (a' := ?_) (bt_ 15 1023) rfl rfl (take_ofW HT_.out HW_.out (by kernel_rfl)) (fun _ _ _ h => h) (Or.inl ⟨by rfl, ?_⟩) hHeld ?_ ?_
 rotate_left
 ·rintro w' ⟨s0, s1, s2⟩
  go_simp
  with_reducible rfl
 rotate_left
 ·simp only [Act.put, List.setIfInBounds_toArray, List.set_cons_zero, List.set_cons_succ, i64_w, i32_w]
  rfl
 refine one_ (i := 10) (N := some 28) (bt_ 15 2047) rfl rfl (one_of HT_.out (by kernel_rfl)) (by decide) (fun K hK => ?_)
 refine goes_ Try.func121 (by kernel_rfl) rfl #[.agg #[.int .i64 a0_0, .int .i64 a0_1], .int .i64 a1, .int .i64 (wrap64 (Int.tdiv x7_1 t336)), .int .i64 (Int.tmod x7_1 t336)] (by rfl) rfl rfl (by (try simp only [List.map_toArray, List.map_cons, List.map_nil]); first | done | rfl | (simp only [List.length_drop, List.length_take]; rfl)) ?_
 with_reducible refine (spec_l05Port.calls k1 a0_0 a0_1 a1 (wrap64 (Int.tdiv x7_1 t336)) (Int.tmod x7_1 t336) t337 _ A15.out).mono ?_
 rintro e w18 ⟨rfl, hb⟩
 refine ⟨_, rfl, ?_⟩
 have n0_ := Aside0.mk (Kd.R_below (ra_ HO_336000.out) hb)
 have n1_ := Aside0.mk (bk_ BK333.out hb)
 have n2_ := Aside0.mk (bk_ BK334.out hb)
 have n3_ := Aside0.mk (bk_ BK335.out hb)
 have n4_ := Aside0.mk (bs_ HB.out hb)
 clear HO_336000 BK333 BK334 BK335 HB
 have HO_336000 := n0_
 have BK333 := n1_
 have BK334 := n2_
 have BK335 := n3_
 have HB := n4_
 clear n0_ n1_ n2_ n3_ n4_
 (try clear hb)
 (try clear hb2)
 (try clear hk)
 (try clear hi)
 refine hK.out _ _ ⟨(blk_cell BK335.out 0).trans rfl, (blk_cell BK333.out 0).trans rfl, (blk_cell BK333.out 1).trans rfl⟩ (fun hHeld => ?_)
 clear hK K
 refine norm_ (a' := ?_) ?_ ?_
 rotate_left
 ·show Act.put _ (some 28) _ = _
  simp only [Act.put, List.setIfInBounds_toArray, List.set_cons_zero, List.set_cons_succ, i64_w, i32_w]
  rfl
 refine one_ (i := 11) (N := some 29) (bt_ 15 4095) rfl rfl (one_of HT_.out (by kernel_rfl)) (by decide) (fun K hK => ?_)
 refine value_ (w1 := ?_) (v := ?_) (by rfl) rfl ?_ ?_
 rotate_left 2
 ·go_simp
  constructor
  ·rfl
  ·rfl
 refine hK.out _ _ ⟨(blk_cell (blk_alloc BK335.out _) 0).trans rfl, (blk_cell (blk_alloc BK333.out _) 0).trans rfl, (blk_cell (blk_alloc BK333.out _) 1).trans rfl⟩ (fun hHeld => ?_)
 clear hK K
 refine norm_ (a' := ?_) ?_ ?_
 rotate_left
 ·show Act.put _ (some 29) _ = _
  simp only [Act.put, List.setIfInBounds_toArray, List.set_cons_zero, List.set_cons_succ, i64_w, i32_w]
  rfl
 refine one_ (i := 12) (N := some 30) (bt_ 15 8191) rfl rfl (one_of HT_.out (by kernel_rfl)) (by decide) (fun K hK => ?_)
 refine Kd.R_append_step (Kd.int .i64) (w0 := w) w.heap.size (by rfl) (.tmp 19) (.tmp 29) 29 3 (.int .i64 0) 8 rfl Try.underlying29 info3 rfl (by decide) (by omega) u336000 x336000_1 t337 [.int .i64 t337] (fun _ => True) (fun _ => False) rfl rfl ?aP (fun _ hk => hk.elim) ?aF ?aO ?aB ?aS ?aL ?_
 (case aP => exact rfl)
 (case aB => exact (by repeat (first | (with_reducible first | exact HB.out | apply below_alloc | apply pw_below_drewN | apply below_drew1 | refine below_set ?_ GE333.out | refine below_set ?_ GE334.out | refine below_set ?_ GE335.out) | exact HB.out)))
 (case aF => exact (fun _ _ => trivial))
 (case aO => exact (ra_ HO_336000.out))
 (case aS => exact (bz_ HB.out))
 (case aL => have := LMc16.out; omega)
 intro v339 w19 ho hb hg hat
 rw [← Ny338.out] at ho
 have n0_ := Aside0.mk (blk_grown (g := gb333) (o := .cells #[.int .i64 a0_0, .int .i64 a0_1] 42 (0, 0)) (by (with_reducible repeat (first | refine blk_drewN ?_ _ | refine blk_drew ?_ | refine blk_alloc ?_ _)); exact BK333.out) hg (Kd.R_ne HO_336000.out BK333.out (by decide)))
 have n1_ := Aside0.mk (blk_grown (g := gb334) (o := .cells #[.slice none 0 0] 46 (0, 0)) (by (with_reducible repeat (first | refine blk_drewN ?_ _ | refine blk_drew ?_ | refine blk_alloc ?_ _)); exact BK334.out) hg (Kd.R_ne HO_336000.out BK334.out (by decide)))
 have n2_ := Aside0.mk (blk_grown (g := gb335) (o := .cells #[u336000] 46 (0, 0)) (by (with_reducible repeat (first | refine blk_drewN ?_ _ | refine blk_drew ?_ | refine blk_alloc ?_ _)); exact BK335.out) hg (Kd.R_ne HO_336000.out BK335.out (by decide)))
 have n3_ := Aside0.mk (hb)
 have n4_ := Aside0.mk (ho)
 clear BK333 BK334 BK335 HB HO_336000
 have BK333 := n0_
 have BK334 := n1_
 have BK335 := n2_
 have HB := n3_
 have HO340 := n4_
 clear n0_ n1_ n2_ n3_ n4_ ho hb hg hat
 obtain ⟨Ao20, co20, eo20⟩ := Kd.R_slice HO340.out
 (first | subst eo20 | (injection eo20 with f1_ f2_ f3_; have f4_ := f1_.symm; have f5_ := f3_.symm; clear f1_ f2_ f3_; subst f4_; subst f5_))
 refine hK.out _ _ ⟨(blk_cell BK335.out 0).trans rfl, (blk_cell BK333.out 0).trans rfl, (blk_cell BK333.out 1).trans rfl⟩ (fun hHeld => ?_)
 clear hK K
 refine norm_ (a' := ?_) ?_ ?_
 rotate_left
 ·show Act.put _ (some 30) _ = _
  simp only [Act.put, List.setIfInBounds_toArray, List.set_cons_zero, List.set_cons_succ, i64_w, i32_w]
  rfl
 refine pu_ 13 31 (bt_ 15 16383) HT_ ?_
 refine last_ (i := 14) (N := none) (bt_ 15 32767) rfl rfl (one_of HT_.out (by kernel_rfl)) (by decide) (fun K hK => ?_)
 have hs21 : w19.cell? ⟨gb335, 0, none⟩ = some (u336000) := (blk_cell BK335.out 0).trans rfl
 have hfs21 := blk_frozen BK335.out 0
 have hns21_0 := NB333_335.out
 have hns21_1 := NB334_335.out
 have hms21_0 := NB335_333.out
 have hms21_1 := NB335_334.out
 refine skip_ (w1 := ?_) (by rfl) rfl ?_ ?_
 rotate_left
 ·go_simp
  rfl
 refine hK.out _ _ ?_
 clear hK K
 refine done_ (done_of HT_.out (by kernel_rfl)) ?_
 try go_wp2
 go_roundg k1
 case measure => have := HK1.out; omega
 case rel => exact ⟨(wrap64 (x7_1 + 1)), (y338), (.slice Ao20 y338.length co20), ef_, H', ⟨by have := HK1.out; omega⟩, ⟨rm_ (Kd.R_types HO340.out BK335.out (by decide)) (fun _ hk => trivial)⟩, ⟨by (with_reducible repeat (first | refine blk_drewN ?_ _ | refine blk_drew ?_ | refine blk_alloc ?_ _)); refine blk_far ?_ NB333_335.out _; (with_reducible repeat (first | refine blk_drewN ?_ _ | refine blk_drew ?_ | refine blk_alloc ?_ _)); exact BK333.out⟩, ⟨by (with_reducible repeat (first | refine blk_drewN ?_ _ | refine blk_drew ?_ | refine blk_alloc ?_ _)); refine blk_far ?_ NB334_335.out _; (with_reducible repeat (first | refine blk_drewN ?_ _ | refine blk_drew ?_ | refine blk_alloc ?_ _)); exact BK334.out⟩, ⟨by (with_reducible repeat (first | refine blk_drewN ?_ _ | refine blk_drew ?_ | refine blk_alloc ?_ _)); refine blk_put (cs := #[u336000]) ?_ 0 _ rfl; (with_reducible repeat (first | refine blk_drewN ?_ _ | refine blk_drew ?_ | refine blk_alloc ?_ _)); exact BK335.out⟩, ⟨bb_ HB.out⟩⟩

end Go.Proofs.Ytimdefbpoddoaaa.PFnExactSafeRules
-- thin
