/- The law's functions as plain functions, and their calls. No condition. -/
import Derived.Test.YtimdefbpoddoaaaPFnExactSafeRulesx0
import Derived.Test.YtimdefbpoddoaaaPFnExactSafeRulesx12
import Derived.Test.YtimdefbpoddoaaaPFnExactSafeRulesx13
import Derived.Test.YtimdefbpoddoaaaPFnExactSafeRulesx21
import Derived.Test.YtimdefbpoddoaaaPFnExactSafeRulesx22
namespace Go.Proofs.Ytimdefbpoddoaaa.PFnExactSafeRules
open Go.RowKit Go.Proofs.YtimdefbpoddoaaaW.PrintWords Go.Proofs.YtimdefbpoddoaaaW.PrintLast Go.Proofs.YtimdefbpoddoaaaW.PrintMore
attribute [local go_sem] max2_int min2_int max_two min_two max_three min_three max_four min_four
set_option linter.unusedVariables false
set_option maxHeartbeats 8000000
set_option maxRecDepth 100000
set_option linter.unusedSimpArgs false

/-! ### impl_StandardTable: function 52 -/
mutual
def impl_StandardTable.j0 : Nat → Int → Bool → Int → Int → Option (List Int × Bool)
 | 0, _, _, _, _ => none
 | k + 1, x1, x16, x523000, x523001 => if x16 = true then (some (([] : List Int), false)) else ((impl_NodeCount.f x523000 x523001).bind fun t527 => (impl_StandardTable.l0 k x1 t527 0 x523000 x523001 ([] : List Int)))
def impl_StandardTable.l0 : Nat → Int → Int → Int → Int → Int → List Int → Option (List Int × Bool)
 | 0, _, _, _, _, _, _ => none
 | k + 1, x1, x20, x21, x523000, x523001, x527000 => if x21 < x20 then ((impl_NodeCount.f x523000 x523001).bind fun t528 => (impl_StandardTable.l1 k x1 x21 x20 x21 t528 0 x523000 x523001 x527000)) else (some (x527000, true))
def impl_StandardTable.l1 : Nat → Int → Int → Int → Int → Int → Int → Int → Int → List Int → Option (List Int × Bool)
 | 0, _, _, _, _, _, _, _, _, _ => none
 | k + 1, x1, x7, x20, x21, x25, x26, x523000, x523001, x527000 => if x26 < x25 then ((impl_StandardPort.f k x523000 x523001 x1 x7 x26).bind fun t529 => (if x527000.length < 17592186044416 then (impl_StandardTable.l1 k x1 x7 x20 x21 x25 (wrap64 (x26 + 1)) x523000 x523001 (x527000 ++ [t529])) else (none))) else (impl_StandardTable.l0 k x1 x20 (wrap64 (x21 + 1)) x523000 x523001 x527000)
end
def impl_StandardTable.f (k : Nat) (a0_0 : Int) (a0_1 : Int) (a1 : Int) : Option (List Int × Bool) := (impl_GridOk.f a0_0 a0_1).bind fun t524 => (if t524 = true then ((impl_inside.f a1 1 4).bind fun t525 => (impl_StandardTable.j0 k a1 (!t525) a0_0 a0_1)) else (impl_StandardTable.j0 k a1 true a0_0 a0_1))
theorem impl_StandardTable.mono_l : ∀ k, (∀ y0 y1 y2 y3, LeO (impl_StandardTable.j0 k y0 y1 y2 y3) (impl_StandardTable.j0 (k + 1) y0 y1 y2 y3)) ∧ (∀ y0 y1 y2 y3 y4 y5, LeO (impl_StandardTable.l0 k y0 y1 y2 y3 y4 y5) (impl_StandardTable.l0 (k + 1) y0 y1 y2 y3 y4 y5)) ∧ (∀ y0 y1 y2 y3 y4 y5 y6 y7 y8, LeO (impl_StandardTable.l1 k y0 y1 y2 y3 y4 y5 y6 y7 y8) (impl_StandardTable.l1 (k + 1) y0 y1 y2 y3 y4 y5 y6 y7 y8))
 | 0 => ⟨fun _ _ _ _ r h => by simp [impl_StandardTable.j0] at h, fun _ _ _ _ _ _ r h => by simp [impl_StandardTable.l0] at h, fun _ _ _ _ _ _ _ _ _ r h => by simp [impl_StandardTable.l1] at h⟩
 | k + 1 => by
  obtain ⟨ih0, ih1, ih2⟩ := impl_StandardTable.mono_l k
  refine ⟨?_, ?_, ?_⟩
  ·intro y0 y1 y2 y3
   unfold impl_StandardTable.j0
   repeat' first
   | (with_reducible exact ih0 _ _ _ _)
   | (with_reducible exact ih1 _ _ _ _ _ _)
   | (with_reducible exact ih2 _ _ _ _ _ _ _ _ _)
   | (with_reducible exact impl_StandardPort.mono _ _ _ _ _ _)
   | (with_reducible exact LeO.refl _)
   | (with_reducible exact LeO.none _)
   | (with_reducible refine LeO.ite ?_ ?_)
   | (with_reducible refine LeO.bind ?_ (fun _ => ?_))
   | exact ih0 _ _ _ _
   | exact ih1 _ _ _ _ _ _
   | exact ih2 _ _ _ _ _ _ _ _ _
   | exact impl_StandardPort.mono _ _ _ _ _ _
   | exact LeO.none _
   | refine LeO.ite ?_ ?_
   | refine LeO.bind ?_ (fun _ => ?_)
  ·intro y0 y1 y2 y3 y4 y5
   unfold impl_StandardTable.l0
   repeat' first
   | (with_reducible exact ih0 _ _ _ _)
   | (with_reducible exact ih1 _ _ _ _ _ _)
   | (with_reducible exact ih2 _ _ _ _ _ _ _ _ _)
   | (with_reducible exact impl_StandardPort.mono _ _ _ _ _ _)
   | (with_reducible exact LeO.refl _)
   | (with_reducible exact LeO.none _)
   | (with_reducible refine LeO.ite ?_ ?_)
   | (with_reducible refine LeO.bind ?_ (fun _ => ?_))
   | exact ih0 _ _ _ _
   | exact ih1 _ _ _ _ _ _
   | exact ih2 _ _ _ _ _ _ _ _ _
   | exact impl_StandardPort.mono _ _ _ _ _ _
   | exact LeO.none _
   | refine LeO.ite ?_ ?_
   | refine LeO.bind ?_ (fun _ => ?_)
  ·intro y0 y1 y2 y3 y4 y5 y6 y7 y8
   unfold impl_StandardTable.l1
   repeat' first
   | (with_reducible exact ih0 _ _ _ _)
   | (with_reducible exact ih1 _ _ _ _ _ _)
   | (with_reducible exact ih2 _ _ _ _ _ _ _ _ _)
   | (with_reducible exact impl_StandardPort.mono _ _ _ _ _ _)
   | (with_reducible exact LeO.refl _)
   | (with_reducible exact LeO.none _)
   | (with_reducible refine LeO.ite ?_ ?_)
   | (with_reducible refine LeO.bind ?_ (fun _ => ?_))
   | exact ih0 _ _ _ _
   | exact ih1 _ _ _ _ _ _
   | exact ih2 _ _ _ _ _ _ _ _ _
   | exact impl_StandardPort.mono _ _ _ _ _ _
   | exact LeO.none _
   | refine LeO.ite ?_ ?_
   | refine LeO.bind ?_ (fun _ => ?_)
theorem impl_StandardTable.mono : ∀ a0 a1 a2 k, LeO (impl_StandardTable.f k a0 a1 a2) (impl_StandardTable.f (k + 1) a0 a1 a2) := by
 intro a0 a1 a2 k
 obtain ⟨ih0, ih1, ih2⟩ := impl_StandardTable.mono_l k
 unfold impl_StandardTable.f
 repeat' first
   | (with_reducible exact ih0 _ _ _ _)
   | (with_reducible exact ih1 _ _ _ _ _ _)
   | (with_reducible exact ih2 _ _ _ _ _ _ _ _ _)
   | (with_reducible exact impl_StandardPort.mono _ _ _ _ _ _)
   | (with_reducible exact LeO.refl _)
   | (with_reducible exact LeO.none _)
   | (with_reducible refine LeO.ite ?_ ?_)
   | (with_reducible refine LeO.bind ?_ (fun _ => ?_))
   | exact ih0 _ _ _ _
   | exact ih1 _ _ _ _ _ _
   | exact ih2 _ _ _ _ _ _ _ _ _
   | exact impl_StandardPort.mono _ _ _ _ _ _
   | exact LeO.none _
   | refine LeO.ite ?_ ?_
   | refine LeO.bind ?_ (fun _ => ?_)
def impl_StandardTable.T10 : Bool × List (List Nat × List Nat) := (true, [([], []), ([0], [0]), ([], []), ([], []), ([], []), ([], []), ([2, 3, 4, 5], [2, 3, 4, 5]), ([6], [6]), ([1, 7, 6], [1, 7]), ([0, 1, 2, 3, 4, 5, 6, 7, 8], []), ([9, 8, 8, 0, 1, 2, 3, 4, 5, 6, 7, 8], [8, 9])])
def impl_StandardTable.B10 : List Nat := [0, 1, 0, 0, 0, 0, 60, 124, 255, 511, 1023]
theorem impl_StandardTable.tab10 : rtab .any (opsOf Try.f52 10) = impl_StandardTable.T10 := by kernel_rfl
theorem impl_StandardTable.bits10 : waitsOk impl_StandardTable.T10.2 impl_StandardTable.B10 = true := by kernel_rfl
theorem impl_StandardTable.calls (k : Nat) (a0_0 : Int) (a0_1 : Int) (a1 : Int) (r1 : List Int) (r2 : Bool) (w : World) (h : impl_StandardTable.f k a0_0 a0_1 a1 = some (r1, r2)) :
  Calls Try.prog 52 #[.agg #[.int .i64 a0_0, .int .i64 a0_1], .int .i64 a1] w fun e w' => ∃ v0_ : Value, e = .returned (.tuple #[.agg #[v0_], .bool r2]) ∧ Kd.R (Kd.int .i64) 3 w' w.heap.size (fun _ => True) v0_ r1 ∧ Below w.heap.size w w' := by
 have hu42 := Try.underlying42
 have hu46 := Try.underlying46
 have HB := Aside0.mk (Below.refl w.heap.size w)
 have H : ((impl_GridOk.f a0_0 a0_1).bind fun t524 => (if t524 = true then ((impl_inside.f a1 1 4).bind fun t525 => (impl_StandardTable.j0 k a1 (!t525) a0_0 a0_1)) else (impl_StandardTable.j0 k a1 true a0_0 a0_1))) = some (r1, r2) := h
 clear h
 have HC3 := Aside0.mk H
 clear H
 go_enter Try.func52, Try.ntmps52
 go_upto_region 1 with (first | ((with_reducible refine gate_dst (N := 2) rfl ?_); refine box_event ?hg (N := 2) ?hd (cs := #[.int .i64 a0_0, .int .i64 a0_1]) (t := 42) ?hr ?_; (case hd => rfl); (case hg => rfl); (case hr => first | (go_simp; done) | (go_simp; rfl)); intro gb522 hg w4 hbox hb; have BK522 := Aside0.mk (hbox); have GW522 := Aside0.mk ((by rw [hg]; exact (bz_ HB.out) : w.heap.size ≤ gb522)); have GE522 := Aside0.mk ((by rw [hg]; exact (bz_ HB.out) : w.heap.size ≤ gb522)); replace HB := Aside0.mk (bs_ HB.out hb); clear hb hbox hg) | ((with_reducible refine gate_dst (N := 4) rfl ?_); refine box_event ?hg (N := 4) ?hd (cs := #[.slice none 0 0]) (t := 46) ?hr ?_; (case hd => rfl); (case hg => rfl); (case hr => first | (go_simp; done) | (go_simp; rfl)); intro gb523 hg w5 hbox hb; have BK523 := Aside0.mk (hbox); have GW523 := Aside0.mk ((by rw [hg]; exact (bz_ HB.out) : w.heap.size ≤ gb523)); have GE523 := Aside0.mk ((by rw [hg]; exact (bz_ HB.out) : w.heap.size ≤ gb523)); replace HB := Aside0.mk (bs_ HB.out hb); have NB522_523 := Aside0.mk ((by rw [hg]; exact Nat.ne_of_lt (bl_ BK522.out) : gb522 ≠ gb523)); have NB523_522 := Aside0.mk ((by rw [hg]; exact Nat.ne_of_gt (bl_ BK522.out) : gb523 ≠ gb522)); replace BK522 := Aside0.mk (bk_ BK522.out hb); clear hb hbox hg))
 (try simp only [Act.put, List.setIfInBounds_toArray, List.set_cons_zero, List.set_cons_succ])
 go_cut [16] (fun v16 wc => ∃ (kq : Nat) (x16_2 : Bool), v16 = .bool x16_2 ∧ Aside0 (impl_StandardTable.j0 kq a1 x16_2 a0_0 a0_1 = some (r1, r2)) ∧ Aside0 (kq ≤ k) ∧ Aside0 (wc.heap[gb522]? = some (.cells #[.int .i64 a0_0, .int .i64 a0_1] 42 (0, 0))) ∧ Aside0 (wc.heap[gb523]? = some (.cells #[(.slice none 0 0)] 46 (0, 0))) ∧ Aside0 (Below w.heap.size w wc))
 case first =>
  have H := HC3.out
  clear HC3
  replace H := Option.bind_eq_some_iff.mp H
  obtain ⟨t524, A60, H⟩ := H
  try dsimp only at H
  have A6 := Aside0.mk A60
  clear A60
  by_cases c7 : t524 = true
  rotate_left
  ·replace c7 := Bool.eq_false_iff.mpr c7
   subst c7
   rw [if_neg (show ¬ (false = true) by decide)] at H
   have H' := Aside0.mk H
   clear H
   have hnb12 := NB522_523.out
   have hnc12 := NB523_522.out
   obtain ⟨hcz13_0, hcz13_1, hfz13_0, hfz13_1⟩ := cz2_ BK522.out
   go_wp2_with (first | ((with_reducible refine gate_callee (f := 93) rfl ?_); refine gm_ (some 10) Try.func93 #[.agg #[.int .i64 a0_0, .int .i64 a0_1]] rfl ?_; (with_reducible refine (impl_GridOk.calls a0_0 a0_1 false _ A6.out).mono ?_); rintro e w14 ⟨rfl, hb⟩; refine ⟨_, rfl, ?_⟩; replace BK522 := Aside0.mk (bk_ BK522.out hb); replace BK523 := Aside0.mk (bk_ BK523.out hb); replace HB := Aside0.mk (bs_ HB.out hb); (try clear hb)))
   go_meet
   case rel => exact ⟨_, (true), ef_, H', ⟨kq_⟩, ⟨bq_ BK522.out⟩, ⟨bq_ BK523.out⟩, ⟨bb_ HB.out⟩⟩
  subst c7
  rw [if_pos rfl] at H
  replace H := Option.bind_eq_some_iff.mp H
  obtain ⟨t525, A80, H⟩ := H
  try dsimp only at H
  have A8 := Aside0.mk A80
  clear A80
  have H' := Aside0.mk H
  clear H
  have hnb9 := NB522_523.out
  have hnc9 := NB523_522.out
  obtain ⟨hcz10_0, hcz10_1, hfz10_0, hfz10_1⟩ := cz2_ BK522.out
  go_wp2_with (first | ((with_reducible refine gate_callee (f := 93) rfl ?_); refine gm_ (some 10) Try.func93 #[.agg #[.int .i64 a0_0, .int .i64 a0_1]] rfl ?_; (with_reducible refine (impl_GridOk.calls a0_0 a0_1 true _ A6.out).mono ?_); rintro e w11 ⟨rfl, hb⟩; refine ⟨_, rfl, ?_⟩; replace BK522 := Aside0.mk (bk_ BK522.out hb); replace BK523 := Aside0.mk (bk_ BK523.out hb); replace HB := Aside0.mk (bs_ HB.out hb); (try clear hb)) | (go_at_call 94; (with_reducible refine (impl_inside.calls a1 1 4 t525 _ A8.out).mono ?_); rintro e w' ⟨rfl, ⟨nd, rfl⟩⟩))
  go_meet
  case rel => exact ⟨_, (!t525), ef_, H', ⟨kq_⟩, ⟨bq_ BK522.out⟩, ⟨bq_ BK523.out⟩, ⟨bb_ HB.out⟩⟩
 case rest =>
  clear HC3
  obtain ⟨kq, x16_2, rfl, HA, HJ2, BK522, BK523, HB⟩ := hcut
  cases kq with
  | zero => exact absurd HA.out (by simp [impl_StandardTable.j0])
  | succ kj2 =>
   have H := HA.out
   clear HA
   simp only [impl_StandardTable.j0] at H
   by_cases c15 : x16_2 = true
   ·subst c15
    rw [if_pos rfl] at H
    simp only [Option.some.injEq, Prod.mk.injEq] at H
    obtain ⟨rfl, rfl⟩ := H
    have hnb16 := NB523_522.out
    have hnc16 := NB522_523.out
    obtain ⟨hcz17_0, hfz17_0⟩ := cz1_ BK523.out
    go_wp2
    refine bodyPost_ret (results_ct rfl _ _ gb523 46 #[.slice none 0 0] (0, 0) _ rfl (by (with_reducible repeat (first | refine blk_drewN ?_ _ | refine blk_drew ?_ | refine blk_alloc ?_ _)); refine blk_put (cs := #[.slice none 0 0]) ?_ 0 _ rfl; (with_reducible repeat (first | refine blk_drewN ?_ _ | refine blk_drew ?_ | refine blk_alloc ?_ _)); exact BK523.out) Try.underlying46 rfl (by kernel_rfl)) rfl ?_
    exact ⟨_, fin_, by first | exact Kd.R_nil _ _ _ _ _ | exact Kd.N_nil _ _ _ _ _ | exact Kd.V_nil _ _ _ _ _ | exact Kd.Q_nil _ _ _ _ _ | exact Kd.S_nil _ _ _ _ _, bb_ HB.out⟩
   ·replace c15 := Bool.eq_false_iff.mpr c15
    subst c15
    rw [if_neg (show ¬ (false = true) by decide)] at H
    replace H := Option.bind_eq_some_iff.mp H
    obtain ⟨t527, A180, H⟩ := H
    try dsimp only at H
    have A18 := Aside0.mk A180
    clear A180
    have H' := Aside0.mk H
    clear H
    go_wp2_with (first | ((with_reducible refine gate_dst (N := 6) rfl ?_); refine box_event ?hg (N := 6) ?hd (cs := #[.slice none 0 0]) (t := 46) ?hr ?_; (case hd => rfl); (case hg => rfl); (case hr => first | (go_simp; done) | (go_simp; rfl)); intro gb526 hg w19 hbox hb; have BK526 := Aside0.mk (hbox); have GW526 := Aside0.mk ((by rw [hg]; exact (bz_ HB.out) : w.heap.size ≤ gb526)); have GE526 := Aside0.mk ((by rw [hg]; exact (bz_ HB.out) : w.heap.size ≤ gb526)); replace HB := Aside0.mk (bs_ HB.out hb); have NB522_526 := Aside0.mk ((by rw [hg]; exact Nat.ne_of_lt (bl_ BK522.out) : gb522 ≠ gb526)); have NB526_522 := Aside0.mk ((by rw [hg]; exact Nat.ne_of_gt (bl_ BK522.out) : gb526 ≠ gb522)); replace BK522 := Aside0.mk (bk_ BK522.out hb); have NB523_526 := Aside0.mk ((by rw [hg]; exact Nat.ne_of_lt (bl_ BK523.out) : gb523 ≠ gb526)); have NB526_523 := Aside0.mk ((by rw [hg]; exact Nat.ne_of_gt (bl_ BK523.out) : gb526 ≠ gb523)); replace BK523 := Aside0.mk (bk_ BK523.out hb); clear hb hbox hg; have hnb20 := NB526_522.out; have hnc20 := NB522_526.out; have hnb21 := NB526_523.out; have hnc21 := NB523_526.out; obtain ⟨hcz22_0, hfz22_0⟩ := cz1_ BK526.out; have hnb23 := NB522_523.out; have hnc23 := NB523_522.out; obtain ⟨hcz24_0, hcz24_1, hfz24_0, hfz24_1⟩ := cz2_ BK522.out) | ((with_reducible refine gate_callee (f := 95) rfl ?_); refine gm_ (some 20) Try.func95 #[.agg #[.int .i64 a0_0, .int .i64 a0_1]] rfl ?_; (with_reducible refine (impl_NodeCount.calls a0_0 a0_1 t527 _ A18.out).mono ?_); rintro e w25 ⟨rfl, hb⟩; refine ⟨_, rfl, ?_⟩; replace BK522 := Aside0.mk (blk_below (bf_ BK522.out) hb); replace BK523 := Aside0.mk (blk_below (bf_ BK523.out) hb); replace BK526 := Aside0.mk (blk_below (g := gb526) (o := .cells #[.slice none 0 0] 46 (0, 0)) (by (with_reducible repeat (first | refine blk_drewN ?_ _ | refine blk_drew ?_ | refine blk_alloc ?_ _)); refine blk_put (cs := #[.slice none 0 0]) ?_ 0 _ rfl; (with_reducible repeat (first | refine blk_drewN ?_ _ | refine blk_drew ?_ | refine blk_alloc ?_ _)); exact BK526.out) hb); replace HB := Aside0.mk (bs_ HB.out hb); (try clear hb)))
    go_loopg [21] kj2 (fun kq v21 w' => ∃ (x21_2 : Int) (x527000_2 : List Int) (u527000 : Value), v21 = .int .i64 x21_2 ∧ Aside0 (impl_StandardTable.l0 kq a1 t527 x21_2 a0_0 a0_1 x527000_2 = some (r1, r2)) ∧ Aside0 (kq ≤ kj2) ∧ Aside0 (Kd.R (Kd.int .i64) 3 w' w.heap.size (fun _ => True) u527000 x527000_2) ∧ Aside0 (w'.heap[gb522]? = some (.cells #[.int .i64 a0_0, .int .i64 a0_1] 42 (0, 0))) ∧ Aside0 (w'.heap[gb523]? = some (.cells #[(.slice none 0 0)] 46 (0, 0))) ∧ Aside0 (w'.heap[gb526]? = some (.cells #[u527000] 46 (0, 0))) ∧ Aside0 (Below w.heap.size w w'))
    case atStart => exact ⟨(0), (([] : List Int)), (.slice none 0 0), ef_, H', ⟨Nat.le_refl _⟩, ⟨by first | exact Kd.R_nil _ _ _ _ _ | exact Kd.N_nil _ _ _ _ _ | exact Kd.V_nil _ _ _ _ _ | exact Kd.Q_nil _ _ _ _ _ | exact Kd.S_nil _ _ _ _ _⟩, ⟨bq_ BK522.out⟩, ⟨bq_ BK523.out⟩, ⟨bq_ BK526.out⟩, ⟨bb_ HB.out⟩⟩
    clear H'
    try clear c15
    try clear hcz22_0 hfz22_0
    try clear hcz24_0 hcz24_1 hfz24_0 hfz24_1
    obtain ⟨x21_2, x527000_2, u527000, rfl, HA, HK2, HO_527000, BK522, BK523, BK526, HB⟩ := hrel
    obtain _ | k2 := gk
    ·exact absurd HA.out (by simp [impl_StandardTable.l0])
    have H := HA.out
    clear HA
    simp only [impl_StandardTable.l0] at H
    by_cases c26 : x21_2 < t527
    rotate_left
    ·rw [if_neg c26] at H
     have c26b0 : decide (x21_2 < t527) = false := decide_eq_false c26
     clear c26
     simp only [Option.some.injEq, Prod.mk.injEq] at H
     obtain ⟨rfl, rfl⟩ := H
     have hnb40 := NB526_522.out
     have hnc40 := NB522_526.out
     have hnb41 := NB526_523.out
     have hnc41 := NB523_526.out
     obtain ⟨hcz42_0, hfz42_0⟩ := cz1_ BK526.out
     obtain ⟨Ao43, co43, eo43⟩ := Kd.R_slice HO_527000.out
     subst eo43
     have hnb44 := NB523_522.out
     have hnc44 := NB522_523.out
     obtain ⟨hcz45_0, hfz45_0⟩ := cz1_ BK523.out
     go_wp2
     refine bodyPost_ret (results_ct rfl _ _ gb523 46 #[.slice Ao43 x527000_2.length co43] (0, 0) _ rfl (by (with_reducible repeat (first | refine blk_drewN ?_ _ | refine blk_drew ?_ | refine blk_alloc ?_ _)); refine blk_put (cs := #[.slice none 0 0]) ?_ 0 _ rfl; (with_reducible repeat (first | refine blk_drewN ?_ _ | refine blk_drew ?_ | refine blk_alloc ?_ _)); exact BK523.out) Try.underlying46 rfl (by kernel_rfl)) rfl ?_
     exact ⟨_, fin_, rm_ (Kd.R_types HO_527000.out BK523.out (by decide)) (fun _ hk => trivial), bb_ HB.out⟩
    rw [if_pos c26] at H
    have c26b0 : decide (x21_2 < t527) = true := decide_eq_true c26
    clear c26
    replace H := Option.bind_eq_some_iff.mp H
    obtain ⟨t528, A270, H⟩ := H
    try dsimp only at H
    have A27 := Aside0.mk A270
    clear A270
    have H' := Aside0.mk H
    clear H
    have hnb28 := NB522_523.out
    have hnc28 := NB523_522.out
    have hnb29 := NB522_526.out
    have hnc29 := NB526_522.out
    obtain ⟨hcz30_0, hcz30_1, hfz30_0, hfz30_1⟩ := cz2_ BK522.out
    go_wp2_with (first | ((with_reducible refine gate_callee (f := 95) rfl ?_); refine gm_ (some 25) Try.func95 #[.agg #[.int .i64 a0_0, .int .i64 a0_1]] rfl ?_; (with_reducible refine (impl_NodeCount.calls a0_0 a0_1 t528 _ A27.out).mono ?_); rintro e w31 ⟨rfl, hb⟩; refine ⟨_, rfl, ?_⟩; replace HO_527000 := Aside0.mk (Kd.R_below (ra_ HO_527000.out) hb); replace BK522 := Aside0.mk (bk_ BK522.out hb); replace BK523 := Aside0.mk (bk_ BK523.out hb); replace BK526 := Aside0.mk (bk_ BK526.out hb); replace HB := Aside0.mk (bs_ HB.out hb); (try clear hb)))
    go_loopg [26] k2 (fun kq v26 w' => ∃ (x26_3 : Int) (x527000_3 : List Int) (u527000 : Value), v26 = .int .i64 x26_3 ∧ Aside0 (impl_StandardTable.l1 kq a1 x21_2 t527 x21_2 t528 x26_3 a0_0 a0_1 x527000_3 = some (r1, r2)) ∧ Aside0 (kq ≤ k2) ∧ Aside0 (Kd.R (Kd.int .i64) 3 w' w.heap.size (fun _ => True) u527000 x527000_3) ∧ Aside0 (w'.heap[gb522]? = some (.cells #[.int .i64 a0_0, .int .i64 a0_1] 42 (0, 0))) ∧ Aside0 (w'.heap[gb523]? = some (.cells #[(.slice none 0 0)] 46 (0, 0))) ∧ Aside0 (w'.heap[gb526]? = some (.cells #[u527000] 46 (0, 0))) ∧ Aside0 (Below w.heap.size w w'))
    case atStart => exact ⟨(0), (x527000_2), (u527000), ef_, H', ⟨Nat.le_refl _⟩, ⟨by (with_reducible repeat (first | apply Kd.R_alloc | apply Kd.R_drewN | apply Kd.R_drew)); exact HO_527000.out⟩, ⟨bq_ BK522.out⟩, ⟨bq_ BK523.out⟩, ⟨bq_ BK526.out⟩, ⟨bb_ HB.out⟩⟩
    clear H'
    try clear c15
    try clear c26
    try clear c26b0
    try clear hcz22_0 hfz22_0
    try clear hcz24_0 hcz24_1 hfz24_0 hfz24_1
    try clear hcz30_0 hcz30_1 hfz30_0 hfz30_1
    obtain ⟨x26_3, x527000_3, u527000, rfl, HA, HK3, HO_527000, BK522, BK523, BK526, HB⟩ := hrel
    obtain _ | k3 := gk
    ·exact absurd HA.out (by simp [impl_StandardTable.l1])
    have H := HA.out
    clear HA
    simp only [impl_StandardTable.l1] at H
    by_cases c32 : x26_3 < t528
    rotate_left
    ·rw [if_neg c32] at H
     have c32b0 : decide (x26_3 < t528) = false := decide_eq_false c32
     clear c32
     have H' := Aside0.mk H
     clear H
     go_wp2
     go_roundg k3
     case measure => have := HJ2.out; have := HK2.out; have := HK3.out; omega
     case rel => exact ⟨(wrap64 (x21_2 + 1)), (x527000_3), (u527000), ef_, H', ⟨by have := HJ2.out; have := HK2.out; have := HK3.out; omega⟩, ⟨by (with_reducible repeat (first | apply Kd.R_alloc | apply Kd.R_drewN | apply Kd.R_drew)); exact HO_527000.out⟩, ⟨bq_ BK522.out⟩, ⟨bq_ BK523.out⟩, ⟨bq_ BK526.out⟩, ⟨bb_ HB.out⟩⟩
    rw [if_pos c32] at H
    have c32b0 : decide (x26_3 < t528) = true := decide_eq_true c32
    clear c32
    replace H := Option.bind_eq_some_iff.mp H
    obtain ⟨t529, A330, H⟩ := H
    try dsimp only at H
    have A33 := Aside0.mk A330
    clear A330
    by_cases c34 : x527000_3.length < 17592186044416
    rotate_left
    ·rw [if_neg c34] at H
     exact absurd H (by simp)
    rw [if_pos c34] at H
    have LMc34 := Aside0.mk c34
    clear c34
    obtain ⟨y530, hy530⟩ : ∃ y_ : List Int, y_ = (x527000_3 ++ [t529]) := ⟨_, rfl⟩
    replace H : (impl_StandardTable.l1 k3 a1 x21_2 t527 x21_2 t528 (wrap64 (x26_3 + 1)) a0_0 a0_1 y530) = some (r1, r2) := by first | (rw [hy530]; with_reducible exact H) | (have H2_ := (Option.bind_some _ _).symm.trans H; rw [hy530]; with_reducible exact H2_) | (have H2_ := (Option.bind_some _ _).symm.trans H; with_reducible exact H2_) | with_reducible exact H | (rw [hy530]; exact H) | exact H
    have Ny530 := Aside0.mk hy530
    clear hy530
    have H' := Aside0.mk H
    clear H
    try go_wp2
    have n0_ := Aside0.mk (Kd.R_drew HO_527000.out)
    have n1_ := Aside0.mk (blk_drew BK522.out)
    have n2_ := Aside0.mk (blk_drew BK523.out)
    have n3_ := Aside0.mk (blk_drew BK526.out)
    have n4_ := Aside0.mk (below_drew1 HB.out)
    clear HO_527000 BK522 BK523 BK526 HB
    have HO_527000 := n0_
    have BK522 := n1_
    have BK523 := n2_
    have BK526 := n3_
    have HB := n4_
    clear n0_ n1_ n2_ n3_ n4_
    refine start_ (n := 11) (S := fun w' => w'.cell? ⟨gb526, 0, none⟩ = some (u527000) ∧ w'.cell? ⟨gb522, 0, none⟩ = some (.int .i64 a0_0) ∧ w'.cell? ⟨gb522, 1, none⟩ = some (.int .i64 a0_1)) (ds := [10]) #[false, false, false, false, false, false, false, false, false, false, false] (by kernel_rfl) rfl rfl ⟨(blk_cell BK526.out 0).trans rfl, (blk_cell BK522.out 0).trans rfl, (blk_cell BK522.out 1).trans rfl⟩ (fun hHeld => ?_); refine with_tabW impl_StandardTable.tab10 impl_StandardTable.bits10 (fun HT_ HW_ => ?_)
    generalize wr.drew = w35 at HO_527000 BK522 BK523 BK526 HB hHeld ⊢
    refine pu_ 0 29 (bt_ 11 1) HT_ ?_
    refine pu_ 3 32 (bt_ 11 9) HT_ ?_
    refine pu_ 4 33 (bt_ 11 25) HT_ ?_
    refine pu_ 5 34 (bt_ 11 57) HT_ ?_
    refine take_ (i := 1) (N := some 30) (v := ?_) (a' := ?_) (bt_ 11 59) rfl rfl (take_ofW HT_.out HW_.out (by kernel_rfl)) (fun _ _ _ h => h) (Or.inl ⟨by rfl, ?_⟩) hHeld ?_ ?_
    rotate_left
    ·rintro w' ⟨s0, s1, s2⟩
     go_simp
     with_reducible rfl
    rotate_left
    ·simp only [Act.put, List.setIfInBounds_toArray, List.set_cons_zero, List.set_cons_succ, i64_w, i32_w]
     rfl
    refine take_ (i := 2) (N := some 31) (v := ?_) (a' := ?_) (bt_ 11 63) rfl rfl (take_ofW HT_.out HW_.out (by kernel_rfl)) (fun _ _ _ h => h) (Or.inl ⟨by rfl, ?_⟩) hHeld ?_ ?_
    rotate_left
    ·rintro w' ⟨s0, s1, s2⟩
     go_simp
     with_reducible rfl
    rotate_left
    ·simp only [Act.put, List.setIfInBounds_toArray, List.set_cons_zero, List.set_cons_succ, i64_w, i32_w]
     rfl
    refine one_ (i := 6) (N := some 35) (bt_ 11 127) rfl rfl (one_of HT_.out (by kernel_rfl)) (by decide) (fun K hK => ?_)
    refine goes_ Try.func96 (by kernel_rfl) rfl #[.agg #[.int .i64 a0_0, .int .i64 a0_1], .int .i64 a1, .int .i64 x21_2, .int .i64 x26_3] (by rfl) rfl rfl (by (try simp only [List.map_toArray, List.map_cons, List.map_nil]); first | done | rfl | (simp only [List.length_drop, List.length_take]; rfl)) ?_
    with_reducible refine (impl_StandardPort.calls k3 a0_0 a0_1 a1 x21_2 x26_3 t529 _ A33.out).mono ?_
    rintro e w36 ⟨rfl, hb⟩
    refine ⟨_, rfl, ?_⟩
    have n0_ := Aside0.mk (Kd.R_below (ra_ HO_527000.out) hb)
    have n1_ := Aside0.mk (bk_ BK522.out hb)
    have n2_ := Aside0.mk (bk_ BK523.out hb)
    have n3_ := Aside0.mk (bk_ BK526.out hb)
    have n4_ := Aside0.mk (bs_ HB.out hb)
    clear HO_527000 BK522 BK523 BK526 HB
    have HO_527000 := n0_
    have BK522 := n1_
    have BK523 := n2_
    have BK526 := n3_
    have HB := n4_
    clear n0_ n1_ n2_ n3_ n4_
    (try clear hb)
    (try clear hb2)
    (try clear hk)
    (try clear hi)
    refine hK.out _ _ ⟨(blk_cell BK526.out 0).trans rfl, (blk_cell BK522.out 0).trans rfl, (blk_cell BK522.out 1).trans rfl⟩ (fun hHeld => ?_)
    clear hK K
    refine norm_ (a' := ?_) ?_ ?_
    rotate_left
    ·show Act.put _ (some 35) _ = _
     simp only [Act.put, List.setIfInBounds_toArray, List.set_cons_zero, List.set_cons_succ, i64_w, i32_w]
     rfl
    refine one_ (i := 7) (N := some 36) (bt_ 11 255) rfl rfl (one_of HT_.out (by kernel_rfl)) (by decide) (fun K hK => ?_)
    refine value_ (w1 := ?_) (v := ?_) (by rfl) rfl ?_ ?_
    rotate_left 2
    ·go_simp
     constructor
     ·rfl
     ·rfl
    refine hK.out _ _ ⟨(blk_cell (blk_alloc BK526.out _) 0).trans rfl, (blk_cell (blk_alloc BK522.out _) 0).trans rfl, (blk_cell (blk_alloc BK522.out _) 1).trans rfl⟩ (fun hHeld => ?_)
    clear hK K
    refine norm_ (a' := ?_) ?_ ?_
    rotate_left
    ·show Act.put _ (some 36) _ = _
     simp only [Act.put, List.setIfInBounds_toArray, List.set_cons_zero, List.set_cons_succ, i64_w, i32_w]
     rfl
    refine one_ (i := 8) (N := some 37) (bt_ 11 511) rfl rfl (one_of HT_.out (by kernel_rfl)) (by decide) (fun K hK => ?_)
    refine Kd.R_append_step (Kd.int .i64) (w0 := w) w.heap.size (by rfl) (.tmp 30) (.tmp 36) 29 3 (.int .i64 0) 8 rfl Try.underlying29 info3 rfl (by decide) (by omega) u527000 x527000_3 t529 [.int .i64 t529] (fun _ => True) (fun _ => False) rfl rfl ?aP (fun _ hk => hk.elim) ?aF ?aO ?aB ?aS ?aL ?_
    (case aP => exact rfl)
    (case aB => exact (by repeat (first | (with_reducible first | exact HB.out | apply below_alloc | apply pw_below_drewN | apply below_drew1 | refine below_set ?_ GE522.out | refine below_set ?_ GE523.out | refine below_set ?_ GE526.out) | exact HB.out)))
    (case aF => exact (fun _ _ => trivial))
    (case aO => exact (ra_ HO_527000.out))
    (case aS => exact (bz_ HB.out))
    (case aL => have := LMc34.out; omega)
    intro v531 w37 ho hb hg hat
    rw [← Ny530.out] at ho
    have n0_ := Aside0.mk (blk_grown (g := gb522) (o := .cells #[.int .i64 a0_0, .int .i64 a0_1] 42 (0, 0)) (by (with_reducible repeat (first | refine blk_drewN ?_ _ | refine blk_drew ?_ | refine blk_alloc ?_ _)); exact BK522.out) hg (Kd.R_ne HO_527000.out BK522.out (by decide)))
    have n1_ := Aside0.mk (blk_grown (g := gb523) (o := .cells #[.slice none 0 0] 46 (0, 0)) (by (with_reducible repeat (first | refine blk_drewN ?_ _ | refine blk_drew ?_ | refine blk_alloc ?_ _)); exact BK523.out) hg (Kd.R_ne HO_527000.out BK523.out (by decide)))
    have n2_ := Aside0.mk (blk_grown (g := gb526) (o := .cells #[u527000] 46 (0, 0)) (by (with_reducible repeat (first | refine blk_drewN ?_ _ | refine blk_drew ?_ | refine blk_alloc ?_ _)); exact BK526.out) hg (Kd.R_ne HO_527000.out BK526.out (by decide)))
    have n3_ := Aside0.mk (hb)
    have n4_ := Aside0.mk (ho)
    clear BK522 BK523 BK526 HB HO_527000
    have BK522 := n0_
    have BK523 := n1_
    have BK526 := n2_
    have HB := n3_
    have HO532 := n4_
    clear n0_ n1_ n2_ n3_ n4_ ho hb hg hat
    obtain ⟨Ao38, co38, eo38⟩ := Kd.R_slice HO532.out
    (first | subst eo38 | (injection eo38 with f1_ f2_ f3_; have f4_ := f1_.symm; have f5_ := f3_.symm; clear f1_ f2_ f3_; subst f4_; subst f5_))
    refine hK.out _ _ ⟨(blk_cell BK526.out 0).trans rfl, (blk_cell BK522.out 0).trans rfl, (blk_cell BK522.out 1).trans rfl⟩ (fun hHeld => ?_)
    clear hK K
    refine norm_ (a' := ?_) ?_ ?_
    rotate_left
    ·show Act.put _ (some 37) _ = _
     simp only [Act.put, List.setIfInBounds_toArray, List.set_cons_zero, List.set_cons_succ, i64_w, i32_w]
     rfl
    refine pu_ 9 38 (bt_ 11 1023) HT_ ?_
    refine last_ (i := 10) (N := none) (bt_ 11 2047) rfl rfl (one_of HT_.out (by kernel_rfl)) (by decide) (fun K hK => ?_)
    have hs39 : w37.cell? ⟨gb526, 0, none⟩ = some (u527000) := (blk_cell BK526.out 0).trans rfl
    have hfs39 := blk_frozen BK526.out 0
    have hns39_0 := NB522_526.out
    have hns39_1 := NB523_526.out
    have hms39_0 := NB526_522.out
    have hms39_1 := NB526_523.out
    refine skip_ (w1 := ?_) (by rfl) rfl ?_ ?_
    rotate_left
    ·go_simp
     rfl
    refine hK.out _ _ ?_
    clear hK K
    refine done_ (done_of HT_.out (by kernel_rfl)) ?_
    try go_wp2
    go_roundg k3
    case measure => have := HJ2.out; have := HK2.out; have := HK3.out; omega
    case rel => exact ⟨(wrap64 (x26_3 + 1)), (y530), (.slice Ao38 y530.length co38), ef_, H', ⟨by have := HJ2.out; have := HK2.out; have := HK3.out; omega⟩, ⟨rm_ (Kd.R_types HO532.out BK526.out (by decide)) (fun _ hk => trivial)⟩, ⟨by (with_reducible repeat (first | refine blk_drewN ?_ _ | refine blk_drew ?_ | refine blk_alloc ?_ _)); refine blk_far ?_ NB522_526.out _; (with_reducible repeat (first | refine blk_drewN ?_ _ | refine blk_drew ?_ | refine blk_alloc ?_ _)); exact BK522.out⟩, ⟨by (with_reducible repeat (first | refine blk_drewN ?_ _ | refine blk_drew ?_ | refine blk_alloc ?_ _)); refine blk_far ?_ NB523_526.out _; (with_reducible repeat (first | refine blk_drewN ?_ _ | refine blk_drew ?_ | refine blk_alloc ?_ _)); exact BK523.out⟩, ⟨by (with_reducible repeat (first | refine blk_drewN ?_ _ | refine blk_drew ?_ | refine blk_alloc ?_ _)); refine blk_put (cs := #[u527000]) ?_ 0 _ rfl; (with_reducible repeat (first | refine blk_drewN ?_ _ | refine blk_drew ?_ | refine blk_alloc ?_ _)); exact BK526.out⟩, ⟨bb_ HB.out⟩⟩

/-! ### impl_SafeRules: function 37 -/
attribute [local go_sem] Instr.field asAgg
def impl_SafeRules.l0 : Nat → List Int → Int → Int → Int → Option (List Int)
 | 0, _, _, _, _ => none
 | k + 1, x3, x4, x534000, x534001 => if x4 ≤ 4 then ((impl_StandardTable.f k x534000 x534001 x4).bind fun bt537 => (if bt537.2 = true then ((impl_CheckTable.f k x534000 x534001 ([] : List Int) bt537.1).bind fun bt542 => (if bt542.1 = 1 then (if x3.length < 17592186044416 then (impl_SafeRules.l0 k (x3 ++ [x4]) (wrap64 (x4 + 1)) x534000 x534001) else (none)) else (impl_SafeRules.l0 k x3 (wrap64 (x4 + 1)) x534000 x534001))) else (impl_SafeRules.l0 k x3 (wrap64 (x4 + 1)) x534000 x534001))) else (some x3)
def impl_SafeRules.f (k : Nat) (a0_0 : Int) (a0_1 : Int) : Option (List Int) := impl_SafeRules.l0 k (([] : List Int)) 1 a0_0 a0_1
theorem impl_SafeRules.mono_l : ∀ k, (∀ y0 y1 y2 y3, LeO (impl_SafeRules.l0 k y0 y1 y2 y3) (impl_SafeRules.l0 (k + 1) y0 y1 y2 y3))
 | 0 => fun _ _ _ _ r h => by simp [impl_SafeRules.l0] at h
 | k + 1 => by
  have ih0 := impl_SafeRules.mono_l k
  ·intro y0 y1 y2 y3
   unfold impl_SafeRules.l0
   repeat' first
   | (with_reducible exact ih0 _ _ _ _)
   | (with_reducible exact impl_CheckTable.mono _ _ _ _ _)
   | (with_reducible exact impl_StandardTable.mono _ _ _ _)
   | (with_reducible exact LeO.refl _)
   | (with_reducible exact LeO.none _)
   | (with_reducible refine LeO.ite ?_ ?_)
   | (with_reducible refine LeO.bind ?_ (fun _ => ?_))
   | exact ih0 _ _ _ _
   | exact impl_CheckTable.mono _ _ _ _ _
   | exact impl_StandardTable.mono _ _ _ _
   | exact LeO.none _
   | refine LeO.ite ?_ ?_
   | refine LeO.bind ?_ (fun _ => ?_)
theorem impl_SafeRules.mono : ∀ a0 a1 k, LeO (impl_SafeRules.f k a0 a1) (impl_SafeRules.f (k + 1) a0 a1) := by
 intro a0 a1 k
 have ih0 := impl_SafeRules.mono_l k
 unfold impl_SafeRules.f
 repeat' first
   | (with_reducible exact ih0 _ _ _ _)
   | (with_reducible exact impl_CheckTable.mono _ _ _ _ _)
   | (with_reducible exact impl_StandardTable.mono _ _ _ _)
   | (with_reducible exact LeO.refl _)
   | (with_reducible exact LeO.none _)
   | (with_reducible refine LeO.ite ?_ ?_)
   | (with_reducible refine LeO.bind ?_ (fun _ => ?_))
   | exact ih0 _ _ _ _
   | exact impl_CheckTable.mono _ _ _ _ _
   | exact impl_StandardTable.mono _ _ _ _
   | exact LeO.none _
   | refine LeO.ite ?_ ?_
   | refine LeO.bind ?_ (fun _ => ?_)
theorem impl_SafeRules.calls (k : Nat) (a0_0 : Int) (a0_1 : Int) (r : List Int) (w : World) (h : impl_SafeRules.f k a0_0 a0_1 = some r) :
  Calls Try.prog 37 #[.agg #[.int .i64 a0_0, .int .i64 a0_1]] w fun e w' => ∃ v0_ : Value, e = .returned (v0_) ∧ Kd.R (Kd.int .i64) 3 w' w.heap.size (fun _ => True) v0_ r ∧ Below w.heap.size w w' := by
 have hu40 := Try.underlying40
 have hu42 := Try.underlying42
 have hu46 := Try.underlying46
 have hu44 := Try.underlying44
 have HB := Aside0.mk (Below.refl w.heap.size w)
 have H : (impl_SafeRules.l0 k (([] : List Int)) 1 a0_0 a0_1) = some r := h
 clear h
 obtain ⟨y534, hy534⟩ : ∃ y_ : List Int, y_ = (([] : List Int)) := ⟨_, rfl⟩
 replace H : (impl_SafeRules.l0 k y534 1 a0_0 a0_1) = some r := by first | (rw [hy534]; with_reducible exact H) | (have H2_ := (Option.bind_some _ _).symm.trans H; rw [hy534]; with_reducible exact H2_) | (have H2_ := (Option.bind_some _ _).symm.trans H; with_reducible exact H2_) | with_reducible exact H | (rw [hy534]; exact H) | exact H
 have Ny534 := Aside0.mk hy534
 clear hy534
 have H' := Aside0.mk H
 clear H
 go_enter Try.func37, Try.ntmps37
 go_wp2_with (first | ((with_reducible refine gate_dst (N := 1) rfl ?_); refine box_event ?hg (N := 1) ?hd (cs := #[.int .i64 a0_0, .int .i64 a0_1]) (t := 42) ?hr ?_; (case hd => rfl); (case hg => rfl); (case hr => first | (go_simp; done) | (go_simp; rfl)); intro gb533 hg w2 hbox hb; have BK533 := Aside0.mk (hbox); have GW533 := Aside0.mk ((by rw [hg]; exact (bz_ HB.out) : w.heap.size ≤ gb533)); have GE533 := Aside0.mk ((by rw [hg]; exact (bz_ HB.out) : w.heap.size ≤ gb533)); replace HB := Aside0.mk (bs_ HB.out hb); clear hb hbox hg) | ((with_reducible refine gate_dst (N := 7) rfl ?_); refine Kd.R_lit (Kd.int .i64) _ 3 ?hg (N := 7) ?hd (xs := ([] : List Int)) (inner := []) (ok := fun _ => True) (okp := fun _ => True) ?hr ?hp (fun _ hk => hk) trivial (Below.refl _ _) (Nat.le_refl _) (by simp) ?_; (case hd => rfl); (case hg => rfl); (case hr => first | (go_simp; done) | (go_simp; rfl)); (case hp => exact (Reps.none _ _)); intro v535 w3 ho4 hb hg_ hnew_; clear hg_ hnew_; (first | rw [← Ny534.out] at ho4 | (simp only [Int.reduceToNat] at ho4; rw [← Ny534.out] at ho4)); have HO536 := Aside0.mk (Kd.R_lower ho4 (bz_ HB.out)); replace BK533 := Aside0.mk (bk_ BK533.out hb); replace HB := Aside0.mk (bs_ HB.out hb); clear hb ho4))
 go_loopg [3, 4] k (fun kq v3 v4 w' => ∃ (x3_1 : List Int) (x4_1 : Int), v4 = .int .i64 x4_1 ∧ Aside0 (impl_SafeRules.l0 kq x3_1 x4_1 a0_0 a0_1 = some r) ∧ Aside0 (kq ≤ k) ∧ Aside0 (Kd.R (Kd.int .i64) 3 w' w.heap.size (fun _ => True) v3 x3_1) ∧ Aside0 (w'.heap[gb533]? = some (.cells #[.int .i64 a0_0, .int .i64 a0_1] 42 (0, 0))) ∧ Aside0 (Below w.heap.size w w'))
 case atStart => exact ⟨(y534), (1), ef_, H', ⟨Nat.le_refl _⟩, ⟨by (with_reducible repeat (first | apply Kd.R_alloc | apply Kd.R_drewN | apply Kd.R_drew)); exact HO536.out⟩, ⟨bq_ BK533.out⟩, ⟨bb_ HB.out⟩⟩
 clear H'
 obtain ⟨x3_1, x4_1, rfl, HA, HK1, HO_3, BK533, HB⟩ := hrel
 obtain _ | k1 := gk
 ·exact absurd HA.out (by simp [impl_SafeRules.l0])
 have H := HA.out
 clear HA
 simp only [impl_SafeRules.l0] at H
 by_cases c5 : x4_1 ≤ 4
 rotate_left
 ·rw [if_neg c5] at H
  have c5b0 : decide (x4_1 ≤ 4) = false := decide_eq_false c5
  clear c5
  obtain rfl := Option.some.inj H
  go_wp2
  go_ret
  exact ⟨_, fin_, by (with_reducible repeat (first | apply Kd.R_alloc | apply Kd.R_drewN | apply Kd.R_drew)); exact HO_3.out, bb_ HB.out⟩
 rw [if_pos c5] at H
 have c5b0 : decide (x4_1 ≤ 4) = true := decide_eq_true c5
 clear c5
 replace H := Option.bind_eq_some_iff.mp H
 obtain ⟨⟨t537, t540⟩, A60, H⟩ := H
 try dsimp only at H
 have A6 := Aside0.mk A60
 clear A60
 by_cases c7 : t540 = true
 rotate_left
 ·replace c7 := Bool.eq_false_iff.mpr c7
  subst c7
  rw [if_neg (show ¬ (false = true) by decide)] at H
  have H' := Aside0.mk H
  clear H
  obtain ⟨hcz28_0, hcz28_1, hfz28_0, hfz28_1⟩ := cz2_ BK533.out
  go_wp2_with (first | ((with_reducible refine gate_callee (f := 52) rfl ?_); refine gm_ (some 15) Try.func52 #[.agg #[.int .i64 a0_0, .int .i64 a0_1], .int .i64 x4_1] rfl ?_; (with_reducible refine (impl_StandardTable.calls k1 a0_0 a0_1 x4_1 t537 false _ A6.out).mono ?_); rintro e w29 ⟨v538, rfl, ho0, hb⟩; refine ⟨_, rfl, ?_⟩; have HO539 := Aside0.mk (Kd.R_lower (Kd.R_new' ho0 (rl_ HO_3.out)) (bz_ HB.out)); replace HO_3 := Aside0.mk (Kd.R_elder' (ra_ HO_3.out) (Kd.R_base ho0) hb); replace BK533 := Aside0.mk (bk_ BK533.out hb); replace HB := Aside0.mk (bs_ HB.out hb); (try clear hb); (try clear ho0)) | ((with_reducible refine gate_dst (N := 5) rfl ?_); refine box_event ?hg (N := 5) ?hd (cs := #[.slice none 0 0]) (t := 46) ?hr ?_; (case hd => rfl); (case hg => rfl); (case hr => first | (go_simp; done) | (go_simp; rfl)); intro gb541 hg w30 hbox hb; replace HO_3 := Aside0.mk (Kd.R_below (ra_ HO_3.out) hb); replace HO539 := Aside0.mk (Kd.R_below (ra_ HO539.out) hb); have BK541 := Aside0.mk (hbox); have GW541 := Aside0.mk ((by rw [hg]; exact (bz_ HB.out) : w.heap.size ≤ gb541)); have GE541 := Aside0.mk ((by rw [hg]; exact (bz_ HB.out) : w.heap.size ≤ gb541)); replace HB := Aside0.mk (bs_ HB.out hb); have NB533_541 := Aside0.mk ((by rw [hg]; exact Nat.ne_of_lt (bl_ BK533.out) : gb533 ≠ gb541)); have NB541_533 := Aside0.mk ((by rw [hg]; exact Nat.ne_of_gt (bl_ BK533.out) : gb541 ≠ gb533)); replace BK533 := Aside0.mk (bk_ BK533.out hb); clear hb hbox hg; obtain ⟨Ao31, co31, eo31⟩ := Kd.R_slice HO539.out; subst eo31; have hnb32 := NB541_533.out; have hnc32 := NB533_541.out; obtain ⟨hcz33_0, hfz33_0⟩ := cz1_ BK541.out))
  go_roundg k1
  case measure => have := HK1.out; omega
  case rel => exact ⟨(x3_1), (wrap64 (x4_1 + 1)), ef_, H', ⟨by have := HK1.out; omega⟩, ⟨rm_ (Kd.R_types HO_3.out BK541.out (by decide)) (fun _ hk => trivial)⟩, ⟨by (with_reducible repeat (first | refine blk_drewN ?_ _ | refine blk_drew ?_ | refine blk_alloc ?_ _)); refine blk_far ?_ NB533_541.out _; (with_reducible repeat (first | refine blk_drewN ?_ _ | refine blk_drew ?_ | refine blk_alloc ?_ _)); exact BK533.out⟩, ⟨bb_ HB.out⟩⟩
 subst c7
 rw [if_pos rfl] at H
 replace H := Option.bind_eq_some_iff.mp H
 obtain ⟨⟨t542, t543, t546⟩, A80, H⟩ := H
 try dsimp only at H
 have A8 := Aside0.mk A80
 clear A80
 by_cases c9 : t542 = 1
 rotate_left
 ·rw [if_neg c9] at H
  have c9b0 : (t542 == 1) = false := beq_eq_false_iff_ne.mpr c9
  have c9b1 : (t542 != 1) = true := bne_iff_ne.mpr c9
  have H' := Aside0.mk H
  clear H
  obtain ⟨hcz20_0, hcz20_1, hfz20_0, hfz20_1⟩ := cz2_ BK533.out
  go_wp2_with (first | ((with_reducible refine gate_callee (f := 52) rfl ?_); refine gm_ (some 15) Try.func52 #[.agg #[.int .i64 a0_0, .int .i64 a0_1], .int .i64 x4_1] rfl ?_; (with_reducible refine (impl_StandardTable.calls k1 a0_0 a0_1 x4_1 t537 true _ A6.out).mono ?_); rintro e w21 ⟨v538, rfl, ho0, hb⟩; refine ⟨_, rfl, ?_⟩; have HO539 := Aside0.mk (Kd.R_lower (Kd.R_new' ho0 (rl_ HO_3.out)) (bz_ HB.out)); replace HO_3 := Aside0.mk (Kd.R_elder' (ra_ HO_3.out) (Kd.R_base ho0) hb); replace BK533 := Aside0.mk (bk_ BK533.out hb); replace HB := Aside0.mk (bs_ HB.out hb); (try clear hb); (try clear ho0)) | ((with_reducible refine gate_dst (N := 5) rfl ?_); refine box_event ?hg (N := 5) ?hd (cs := #[.slice none 0 0]) (t := 46) ?hr ?_; (case hd => rfl); (case hg => rfl); (case hr => first | (go_simp; done) | (go_simp; rfl)); intro gb541 hg w22 hbox hb; replace HO_3 := Aside0.mk (Kd.R_below (ra_ HO_3.out) hb); replace HO539 := Aside0.mk (Kd.R_below (ra_ HO539.out) hb); have BK541 := Aside0.mk (hbox); have GW541 := Aside0.mk ((by rw [hg]; exact (bz_ HB.out) : w.heap.size ≤ gb541)); have GE541 := Aside0.mk ((by rw [hg]; exact (bz_ HB.out) : w.heap.size ≤ gb541)); replace HB := Aside0.mk (bs_ HB.out hb); have NB533_541 := Aside0.mk ((by rw [hg]; exact Nat.ne_of_lt (bl_ BK533.out) : gb533 ≠ gb541)); have NB541_533 := Aside0.mk ((by rw [hg]; exact Nat.ne_of_gt (bl_ BK533.out) : gb541 ≠ gb533)); replace BK533 := Aside0.mk (bk_ BK533.out hb); clear hb hbox hg; obtain ⟨Ao23, co23, eo23⟩ := Kd.R_slice HO539.out; subst eo23; have hnb24 := NB541_533.out; have hnc24 := NB533_541.out; obtain ⟨hcz25_0, hfz25_0⟩ := cz1_ BK541.out; obtain ⟨hcz26_0, hcz26_1, hfz26_0, hfz26_1⟩ := cz2_ BK533.out) | (go_at_call 27; (refine (impl_CheckTable.calls k1 a0_0 a0_1 _ _ ([] : List Int) _ _ t537 t542 t543 t546 _ ?side1 ?side2 ?side3 ?side4 A8.out).mono ?_); (case side1 => exact Kd.C_nil _ _); (case side2 => exact Nat.le_refl _); (case side3 => refine (Kd.R_reads' (e := 3) (base := w.heap.size) (ok := fun k_ => (True ∧ some k_ ≠ (u3 : Value).ownBlock)) (n := t537.length) (c := co23) ?_).2.2; exact (rm_ (Kd.R_types HO539.out BK541.out (by decide)) (fun _ h_ => h_.1))); (case side4 => exact (Kd.R_reads' HO539.out).2.1); rintro e w27 ⟨v544, v547, rfl, ho0, ho1, hb⟩; have HO545 := Aside0.mk (Kd.R_lower (Kd.R_new' (Kd.R_new' ho0 (Kd.R_lt (rm_ (Kd.R_types HO_3.out BK541.out (by decide)) (fun _ h_ => h_.1)))) (Kd.R_lt (rm_ (Kd.R_types HO539.out BK541.out (by decide)) (fun _ h_ => h_.1)))) (bz_ HB.out)); have HO548 := Aside0.mk (Kd.R_lower (Kd.R_new' (Kd.R_new' ho1 (Kd.R_lt (rm_ (Kd.R_types HO_3.out BK541.out (by decide)) (fun _ h_ => h_.1)))) (Kd.R_lt (rm_ (Kd.R_types HO539.out BK541.out (by decide)) (fun _ h_ => h_.1)))) (bz_ HB.out)); replace HO_3 := Aside0.mk (Kd.R_mono (Kd.R_told (Kd.R_told (Kd.R_old (rm_ (Kd.R_types HO_3.out BK541.out (by decide)) (fun _ h_ => h_.1)) hb) (Kd.R_base ho0)) (Kd.R_base ho1)) (fun _ h_ => h_.1)); replace HO539 := Aside0.mk (Kd.R_mono (Kd.R_told (Kd.R_told (Kd.R_old (rm_ (Kd.R_types HO539.out BK541.out (by decide)) (fun _ h_ => h_.1)) hb) (Kd.R_base ho0)) (Kd.R_base ho1)) (fun _ h_ => h_.1)); replace BK533 := Aside0.mk (blk_below (bf_ BK533.out) hb); replace BK541 := Aside0.mk (blk_below (g := gb541) (o := .cells #[.slice Ao23 t537.length co23] 46 (0, 0)) (by (with_reducible repeat (first | refine blk_drewN ?_ _ | refine blk_drew ?_ | refine blk_alloc ?_ _)); refine blk_put (cs := #[.slice none 0 0]) ?_ 0 _ rfl; (with_reducible repeat (first | refine blk_drewN ?_ _ | refine blk_drew ?_ | refine blk_alloc ?_ _)); exact BK541.out) hb); replace HB := Aside0.mk (bs_ HB.out hb); (try clear hb); (try clear ho0); (try clear ho1)))
  go_roundg k1
  case measure => have := HK1.out; omega
  case rel => exact ⟨(x3_1), (wrap64 (x4_1 + 1)), ef_, H', ⟨by have := HK1.out; omega⟩, ⟨by (with_reducible repeat (first | apply Kd.R_alloc | apply Kd.R_drewN | apply Kd.R_drew)); exact Kd.R_mono HO_3.out (fun _ hk => trivial)⟩, ⟨bq_ BK533.out⟩, ⟨bb_ HB.out⟩⟩
 rw [if_pos c9] at H
 have c9b0 : (t542 == 1) = true := beq_iff_eq.mpr c9
 have c9b1 : (t542 != 1) = false := bne_eq_false_iff_eq.mpr c9
 clear c9
 by_cases c10 : x3_1.length < 17592186044416
 rotate_left
 ·rw [if_neg c10] at H
  exact absurd H (by simp)
 rw [if_pos c10] at H
 have LMc10 := Aside0.mk c10
 clear c10
 obtain ⟨y549, hy549⟩ : ∃ y_ : List Int, y_ = (x3_1 ++ [x4_1]) := ⟨_, rfl⟩
 replace H : (impl_SafeRules.l0 k1 y549 (wrap64 (x4_1 + 1)) a0_0 a0_1) = some r := by first | (rw [hy549]; with_reducible exact H) | (have H2_ := (Option.bind_some _ _).symm.trans H; rw [hy549]; with_reducible exact H2_) | (have H2_ := (Option.bind_some _ _).symm.trans H; with_reducible exact H2_) | with_reducible exact H | (rw [hy549]; exact H) | exact H
 have Ny549 := Aside0.mk hy549
 clear hy549
 have H' := Aside0.mk H
 clear H
 obtain ⟨hcz11_0, hcz11_1, hfz11_0, hfz11_1⟩ := cz2_ BK533.out
 go_wp2_with (first | ((with_reducible refine gate_callee (f := 52) rfl ?_); refine gm_ (some 15) Try.func52 #[.agg #[.int .i64 a0_0, .int .i64 a0_1], .int .i64 x4_1] rfl ?_; (with_reducible refine (impl_StandardTable.calls k1 a0_0 a0_1 x4_1 t537 true _ A6.out).mono ?_); rintro e w12 ⟨v538, rfl, ho0, hb⟩; refine ⟨_, rfl, ?_⟩; have HO539 := Aside0.mk (Kd.R_lower (Kd.R_new' ho0 (rl_ HO_3.out)) (bz_ HB.out)); replace HO_3 := Aside0.mk (Kd.R_elder' (ra_ HO_3.out) (Kd.R_base ho0) hb); replace BK533 := Aside0.mk (bk_ BK533.out hb); replace HB := Aside0.mk (bs_ HB.out hb); (try clear hb); (try clear ho0)) | ((with_reducible refine gate_dst (N := 5) rfl ?_); refine box_event ?hg (N := 5) ?hd (cs := #[.slice none 0 0]) (t := 46) ?hr ?_; (case hd => rfl); (case hg => rfl); (case hr => first | (go_simp; done) | (go_simp; rfl)); intro gb541 hg w13 hbox hb; replace HO_3 := Aside0.mk (Kd.R_below (ra_ HO_3.out) hb); replace HO539 := Aside0.mk (Kd.R_below (ra_ HO539.out) hb); have BK541 := Aside0.mk (hbox); have GW541 := Aside0.mk ((by rw [hg]; exact (bz_ HB.out) : w.heap.size ≤ gb541)); have GE541 := Aside0.mk ((by rw [hg]; exact (bz_ HB.out) : w.heap.size ≤ gb541)); replace HB := Aside0.mk (bs_ HB.out hb); have NB533_541 := Aside0.mk ((by rw [hg]; exact Nat.ne_of_lt (bl_ BK533.out) : gb533 ≠ gb541)); have NB541_533 := Aside0.mk ((by rw [hg]; exact Nat.ne_of_gt (bl_ BK533.out) : gb541 ≠ gb533)); replace BK533 := Aside0.mk (bk_ BK533.out hb); clear hb hbox hg; obtain ⟨Ao14, co14, eo14⟩ := Kd.R_slice HO539.out; subst eo14; have hnb15 := NB541_533.out; have hnc15 := NB533_541.out; obtain ⟨hcz16_0, hfz16_0⟩ := cz1_ BK541.out; obtain ⟨hcz17_0, hcz17_1, hfz17_0, hfz17_1⟩ := cz2_ BK533.out) | (go_at_call 27; (refine (impl_CheckTable.calls k1 a0_0 a0_1 _ _ ([] : List Int) _ _ t537 t542 t543 t546 _ ?side1 ?side2 ?side3 ?side4 A8.out).mono ?_); (case side1 => exact Kd.C_nil _ _); (case side2 => exact Nat.le_refl _); (case side3 => refine (Kd.R_reads' (e := 3) (base := w.heap.size) (ok := fun k_ => (True ∧ some k_ ≠ (u3 : Value).ownBlock)) (n := t537.length) (c := co14) ?_).2.2; exact (rm_ (Kd.R_types HO539.out BK541.out (by decide)) (fun _ h_ => h_.1))); (case side4 => exact (Kd.R_reads' HO539.out).2.1); rintro e w18 ⟨v544, v547, rfl, ho0, ho1, hb⟩; have HO545 := Aside0.mk (Kd.R_lower (Kd.R_new' (Kd.R_new' ho0 (Kd.R_lt (rm_ (Kd.R_types HO_3.out BK541.out (by decide)) (fun _ h_ => h_.1)))) (Kd.R_lt (rm_ (Kd.R_types HO539.out BK541.out (by decide)) (fun _ h_ => h_.1)))) (bz_ HB.out)); have HO548 := Aside0.mk (Kd.R_lower (Kd.R_new' (Kd.R_new' ho1 (Kd.R_lt (rm_ (Kd.R_types HO_3.out BK541.out (by decide)) (fun _ h_ => h_.1)))) (Kd.R_lt (rm_ (Kd.R_types HO539.out BK541.out (by decide)) (fun _ h_ => h_.1)))) (bz_ HB.out)); replace HO_3 := Aside0.mk (Kd.R_mono (Kd.R_told (Kd.R_told (Kd.R_old (rm_ (Kd.R_types HO_3.out BK541.out (by decide)) (fun _ h_ => h_.1)) hb) (Kd.R_base ho0)) (Kd.R_base ho1)) (fun _ h_ => h_.1)); replace HO539 := Aside0.mk (Kd.R_mono (Kd.R_told (Kd.R_told (Kd.R_old (rm_ (Kd.R_types HO539.out BK541.out (by decide)) (fun _ h_ => h_.1)) hb) (Kd.R_base ho0)) (Kd.R_base ho1)) (fun _ h_ => h_.1)); replace BK533 := Aside0.mk (blk_below (bf_ BK533.out) hb); replace BK541 := Aside0.mk (blk_below (g := gb541) (o := .cells #[.slice Ao14 t537.length co14] 46 (0, 0)) (by (with_reducible repeat (first | refine blk_drewN ?_ _ | refine blk_drew ?_ | refine blk_alloc ?_ _)); refine blk_put (cs := #[.slice none 0 0]) ?_ 0 _ rfl; (with_reducible repeat (first | refine blk_drewN ?_ _ | refine blk_drew ?_ | refine blk_alloc ?_ _)); exact BK541.out) hb); replace HB := Aside0.mk (bs_ HB.out hb); (try clear hb); (try clear ho0); (try clear ho1)) | ((with_reducible refine gate_builtin (b := .append) (xs := #[.tmp 27, .tmp 29]) rfl ?_); at_builtin; refine Kd.R_append (Kd.int .i64) (w0 := w) w.heap.size rfl (.tmp 27) (.tmp 29) 29 3 (.int .i64 0) 8 rfl Try.underlying29 info3 rfl (by decide) (by omega) u3 x3_1 x4_1 [.int .i64 x4_1] (fun k_ => some k_ ≠ (.slice Ao14 t537.length co14 : Value).ownBlock ∧ some k_ ≠ (v544 : Value).ownBlock ∧ some k_ ≠ (v547 : Value).ownBlock) (fun _ => False) rfl rfl ?aP (fun _ hk => hk.elim) ?aF ?aO ?aB ?aS ?aL ?_; (case aP => exact rfl); (case aB => exact (by repeat (first | (with_reducible first | exact HB.out | apply below_alloc | apply pw_below_drewN | apply below_drew1 | refine below_set ?_ GE533.out | refine below_set ?_ GE541.out) | exact HB.out))); (case aF => exact (fun k_ hk => ⟨Kd.fresh' (rl_ HO539.out) k_ hk, Kd.fresh' (rl_ HO545.out) k_ hk, Kd.fresh' (rl_ HO548.out) k_ hk⟩)); (case aO => exact (by (with_reducible repeat (first | apply Kd.R_alloc | apply Kd.R_drewN | apply Kd.R_drew)); exact Kd.R_mono HO_3.out (fun _ hk => ⟨hk.1.1.2, ⟨hk.1.2, hk.2⟩⟩))); (case aS => exact (bz_ HB.out)); (case aL => have := LMc10.out; omega); intro v550 w19 ho hb hg hat; rw [← Ny549.out] at ho; have n0_ := Aside0.mk (blk_grown (g := gb533) (o := .cells #[.int .i64 a0_0, .int .i64 a0_1] 42 (0, 0)) (by (with_reducible repeat (first | refine blk_drewN ?_ _ | refine blk_drew ?_ | refine blk_alloc ?_ _)); exact BK533.out) hg (Kd.R_ne HO_3.out BK533.out (by decide))); have n1_ := Aside0.mk (Kd.R_after (ok := (fun k_ => some k_ ≠ (v544 : Value).ownBlock ∧ some k_ ≠ (v547 : Value).ownBlock)) (by (with_reducible repeat (first | apply Kd.R_alloc | apply Kd.R_drewN | apply Kd.R_drew)); exact Kd.R_mono HO539.out (fun _ hk => ⟨⟨hk.1.2, hk.2⟩, hk.1.1.2⟩)) hg hat); have n2_ := Aside0.mk (blk_grown (g := gb541) (o := .cells #[.slice Ao14 t537.length co14] 46 (0, 0)) (by (with_reducible repeat (first | refine blk_drewN ?_ _ | refine blk_drew ?_ | refine blk_alloc ?_ _)); exact BK541.out) hg (Kd.R_ne HO_3.out BK541.out (by decide))); have n3_ := Aside0.mk (Kd.R_after (ok := (fun k_ => some k_ ≠ (.slice Ao14 t537.length co14 : Value).ownBlock ∧ some k_ ≠ (v547 : Value).ownBlock)) (by (with_reducible repeat (first | apply Kd.R_alloc | apply Kd.R_drewN | apply Kd.R_drew)); exact Kd.R_mono HO545.out (fun _ hk => ⟨⟨hk.2, hk.1.1⟩, hk.1.2⟩)) hg hat); have n4_ := Aside0.mk (Kd.R_after (ok := (fun k_ => some k_ ≠ (.slice Ao14 t537.length co14 : Value).ownBlock ∧ some k_ ≠ (v544 : Value).ownBlock)) (by (with_reducible repeat (first | apply Kd.R_alloc | apply Kd.R_drewN | apply Kd.R_drew)); exact Kd.R_mono HO548.out (fun _ hk => ⟨⟨hk.2, hk.1.1⟩, hk.1.2⟩)) hg hat); have n5_ := Aside0.mk (hb); have n6_ := Aside0.mk (ho); clear BK533; clear HO539; clear BK541; clear HO545; clear HO548; clear HB; clear HO_3; have BK533 := n0_; have HO539 := n1_; have BK541 := n2_; have HO545 := n3_; have HO548 := n4_; have HB := n5_; have HO551 := n6_; clear n0_ n1_ n2_ n3_ n4_ n5_ n6_; clear ho hb hg hat))
 go_roundg k1
 case measure => have := HK1.out; omega
 case rel => exact ⟨(y549), (wrap64 (x4_1 + 1)), ef_, H', ⟨by have := HK1.out; omega⟩, ⟨by (with_reducible repeat (first | apply Kd.R_alloc | apply Kd.R_drewN | apply Kd.R_drew)); exact Kd.R_mono HO551.out (fun _ hk => trivial)⟩, ⟨bq_ BK533.out⟩, ⟨bb_ HB.out⟩⟩

/-! ### laws_eqIntS: function 38 -/
def laws_eqIntS.l0 : Nat → List Int → List Int → Int → Option (Bool)
 | 0, _, _, _ => none
 | k + 1, x0, x1, x5 => if x5 < (x0.length : Int) then (if 0 ≤ x5 then (if x5 < (x1.length : Int) then (if (rd x0 x5) = (rd x1 x5) then (laws_eqIntS.l0 k x0 x1 (wrap64 (x5 + 1))) else (none)) else (none)) else (none)) else (some true)
def laws_eqIntS.f (k : Nat) (l0 : List Int) (l1 : List Int) : Option (Bool) := if (l0.length : Int) = (l1.length : Int) then (laws_eqIntS.l0 k l0 l1 0) else (none)
theorem laws_eqIntS.mono_l : ∀ k, (∀ y0 y1 y2, LeO (laws_eqIntS.l0 k y0 y1 y2) (laws_eqIntS.l0 (k + 1) y0 y1 y2))
 | 0 => fun _ _ _ r h => by simp [laws_eqIntS.l0] at h
 | k + 1 => by
  have ih0 := laws_eqIntS.mono_l k
  ·intro y0 y1 y2
   unfold laws_eqIntS.l0
   repeat' first
   | (with_reducible exact ih0 _ _ _)
   | (with_reducible exact LeO.refl _)
   | (with_reducible exact LeO.none _)
   | (with_reducible refine LeO.ite ?_ ?_)
   | (with_reducible refine LeO.bind ?_ (fun _ => ?_))
   | exact ih0 _ _ _
   | exact LeO.none _
   | refine LeO.ite ?_ ?_
   | refine LeO.bind ?_ (fun _ => ?_)
theorem laws_eqIntS.mono : ∀ a0 a1 k, LeO (laws_eqIntS.f k a0 a1) (laws_eqIntS.f (k + 1) a0 a1) := by
 intro a0 a1 k
 have ih0 := laws_eqIntS.mono_l k
 unfold laws_eqIntS.f
 repeat' first
   | (with_reducible exact ih0 _ _ _)
   | (with_reducible exact LeO.refl _)
   | (with_reducible exact LeO.none _)
   | (with_reducible refine LeO.ite ?_ ?_)
   | (with_reducible refine LeO.bind ?_ (fun _ => ?_))
   | exact ih0 _ _ _
   | exact LeO.none _
   | refine LeO.ite ?_ ?_
   | refine LeO.bind ?_ (fun _ => ?_)
theorem laws_eqIntS.calls (k : Nat) (A0 : Option Addr) (c0 : Nat) (l0 : List Int) (A1 : Option Addr) (c1 : Nat) (l1 : List Int) (r : Bool) (w : World) (hr0 : Kd.C (Kd.int .i64) w A0 l0.length l0) (hc0 : l0.length ≤ c0) (hr1 : Kd.C (Kd.int .i64) w A1 l1.length l1) (hc1 : l1.length ≤ c1) (h : laws_eqIntS.f k l0 l1 = some r) :
  Calls Try.prog 38 #[.slice A0 l0.length c0, .slice A1 l1.length c1] w fun e w' => e = .returned (.bool r) ∧ Drawn0 w w' := by
 have HR0 := Aside0.mk hr0
 have HC0 := Aside0.mk hc0
 clear hr0 hc0
 have HR1 := Aside0.mk hr1
 have HC1 := Aside0.mk hc1
 clear hr1 hc1
 have H : (if (l0.length : Int) = (l1.length : Int) then (laws_eqIntS.l0 k l0 l1 0) else (none)) = some r := h
 clear h
 by_cases c3 : (l0.length : Int) = (l1.length : Int)
 ·rw [if_pos c3] at H
  have c3b0 : ((l0.length : Int) == (l1.length : Int)) = true := beq_iff_eq.mpr c3
  have c3b1 : ((l0.length : Int) != (l1.length : Int)) = false := bne_eq_false_iff_eq.mpr c3
  have c3b2 : (l0.length == l1.length) = true := by first | simpa using c3 | (simp at c3 ⊢; omega)
  clear c3
  have H' := Aside0.mk H
  clear H
  go_enter Try.func38, Try.ntmps38
  go_wp2
  repeat (go_quiet (fail); try go_wp2)
  go_loopg [5] k (fun kq v5 w' => ∃ (x5_1 : Int), v5 = .int .i64 x5_1 ∧ Aside0 (laws_eqIntS.l0 kq l0 l1 x5_1 = some r) ∧ Aside0 (kq ≤ k) ∧ Drawn0 w w')
  case atStart => exact ⟨(0), ef_, H', ⟨Nat.le_refl _⟩, by repeat (first | exact Drawn0.refl _ | apply Drawn0.step)⟩
  clear H'
  try clear c3
  try clear c3b0
  try clear c3b1
  try clear c3b2
  obtain ⟨x5_1, rfl, HA, HK1, ⟨m1, rfl⟩⟩ := hrel
  obtain _ | k1 := gk
  ·exact absurd HA.out (by simp [laws_eqIntS.l0])
  have H := HA.out
  clear HA
  simp only [laws_eqIntS.l0] at H
  by_cases c4 : x5_1 < (l0.length : Int)
  rotate_left
  ·rw [if_neg c4] at H
   have c4b0 : decide (x5_1 < (l0.length : Int)) = false := decide_eq_false c4
   clear c4
   obtain rfl := Option.some.inj H
   go_wp2
   repeat (go_quiet (fail); try go_wp2)
   go_ret
   exact ⟨by first | rfl | (simp; done) | (simp [*]; done), by repeat (first | exact Drawn0.refl _ | apply Drawn0.step)⟩
  rw [if_pos c4] at H
  have c4b0 : decide (x5_1 < (l0.length : Int)) = true := decide_eq_true c4
  clear c4
  by_cases c5 : 0 ≤ x5_1
  rotate_left
  ·rw [if_neg c5] at H
   exact absurd H (by simp)
  rw [if_pos c5] at H
  have c5b0 : decide (0 ≤ x5_1) = true := decide_eq_true c5
  clear c5
  by_cases c6 : x5_1 < (l1.length : Int)
  rotate_left
  ·rw [if_neg c6] at H
   exact absurd H (by simp)
  rw [if_pos c6] at H
  have c6b0 : decide (x5_1 < (l1.length : Int)) = true := decide_eq_true c6
  clear c6
  by_cases c7 : (rd l0 x5_1) = (rd l1 x5_1)
  rotate_left
  ·rw [if_neg c7] at H
   exact absurd H (by simp)
  rw [if_pos c7] at H
  have c7b0 : ((rd l0 x5_1) == (rd l1 x5_1)) = true := beq_iff_eq.mpr c7
  have c7b1 : ((rd l0 x5_1) != (rd l1 x5_1)) = false := bne_eq_false_iff_eq.mpr c7
  clear c7
  have H' := Aside0.mk H
  clear H
  have p552 : 0 ≤ (x5_1 : Int) := of_decide_eq_true dg_
  have q552 : x5_1 < (l0.length : Int) := of_decide_eq_true dg_
  obtain ⟨ad552, e552, hx552_0⟩ := Kd.at_int HR0.out x5_1 p552 q552
  cases e552
  replace p552 := eq_true p552
  replace q552 := eq_true q552
  have p553 : 0 ≤ (x5_1 : Int) := of_decide_eq_true dg_
  have q553 : x5_1 < (l1.length : Int) := of_decide_eq_true dg_
  obtain ⟨ad553, e553, hx553_0⟩ := Kd.at_int HR1.out x5_1 p553 q553
  cases e553
  replace p553 := eq_true p553
  replace q553 := eq_true q553
  go_wp2
  repeat (go_quiet (fail); try go_wp2)
  go_roundg k1
  case measure => have := HK1.out; omega
  case rel => exact ⟨(wrap64 (x5_1 + 1)), ef_, H', ⟨by have := HK1.out; omega⟩, by repeat (first | exact Drawn0.refl _ | apply Drawn0.step)⟩
 ·rw [if_neg c3] at H
  exact absurd H (by simp)

end Go.Proofs.Ytimdefbpoddoaaa.PFnExactSafeRules
-- thin
