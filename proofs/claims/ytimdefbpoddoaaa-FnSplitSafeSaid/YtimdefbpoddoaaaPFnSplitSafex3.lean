/- Each function that the law comes to, as a plain function, with the proof that the call in the model gives what that function says (written by a program of this session out of the translation). No condition. -/
import Derived.Test.YtimdefbpoddoaaaPFnSplitSafex0
import Derived.Test.YtimdefbpoddoaaaPFnSplitSafex1
import Derived.Test.YtimdefbpoddoaaaPFnSplitSafex2
namespace Go.Proofs.Ytimdefbpoddoaaa.PFnSplitSafe
open Go.RowKit Go.Proofs.YtimdefbpoddoaaaW.PrintWords Go.Proofs.YtimdefbpoddoaaaW.PrintLast Go.Proofs.YtimdefbpoddoaaaW.PrintMore
attribute [local go_sem] max2_int min2_int max_two min_two max_three min_three max_four min_four   -- for this text's walks alone
set_option linter.unusedVariables false
set_option linter.unusedSimpArgs false

/-! ### impl_StandardTable: function 52 -/
mutual
def impl_StandardTable.j0 : Nat → Int → Bool → Int → Int → Option (List Int × Bool)
 | 0, _, _, _, _ => none
 | k + 1, x1, x16, x161000, x161001 => if x16 = true then (some (([] : List Int), false)) else ((impl_NodeCount.f x161000 x161001).bind fun t165 => (impl_StandardTable.l0 k x1 t165 0 x161000 x161001 ([] : List Int)))
def impl_StandardTable.l0 : Nat → Int → Int → Int → Int → Int → List Int → Option (List Int × Bool)
 | 0, _, _, _, _, _, _ => none
 | k + 1, x1, x20, x21, x161000, x161001, x165000 => if x21 < x20 then ((impl_NodeCount.f x161000 x161001).bind fun t166 => (impl_StandardTable.l1 k x1 x21 x20 x21 t166 0 x161000 x161001 x165000)) else (some (x165000, true))
def impl_StandardTable.l1 : Nat → Int → Int → Int → Int → Int → Int → Int → Int → List Int → Option (List Int × Bool)
 | 0, _, _, _, _, _, _, _, _, _ => none
 | k + 1, x1, x7, x20, x21, x25, x26, x161000, x161001, x165000 => if x26 < x25 then ((impl_StandardPort.f k x161000 x161001 x1 x7 x26).bind fun t167 => (if x165000.length < 17592186044416 then (impl_StandardTable.l1 k x1 x7 x20 x21 x25 (wrap64 (x26 + 1)) x161000 x161001 (x165000 ++ [t167])) else (none))) else (impl_StandardTable.l0 k x1 x20 (wrap64 (x21 + 1)) x161000 x161001 x165000)
end
def impl_StandardTable.f (k : Nat) (a0_0 : Int) (a0_1 : Int) (a1 : Int) : Option (List Int × Bool) := (impl_GridOk.f a0_0 a0_1).bind fun t162 => (if t162 = true then ((impl_inside.f a1 1 4).bind fun t163 => (impl_StandardTable.j0 k a1 (!t163) a0_0 a0_1)) else (impl_StandardTable.j0 k a1 true a0_0 a0_1))
theorem impl_StandardTable.mono_l : ∀ k, (∀ y0 y1 y2 y3, LeO (impl_StandardTable.j0 k y0 y1 y2 y3) (impl_StandardTable.j0 (k + 1) y0 y1 y2 y3)) ∧ (∀ y0 y1 y2 y3 y4 y5, LeO (impl_StandardTable.l0 k y0 y1 y2 y3 y4 y5) (impl_StandardTable.l0 (k + 1) y0 y1 y2 y3 y4 y5)) ∧ (∀ y0 y1 y2 y3 y4 y5 y6 y7 y8, LeO (impl_StandardTable.l1 k y0 y1 y2 y3 y4 y5 y6 y7 y8) (impl_StandardTable.l1 (k + 1) y0 y1 y2 y3 y4 y5 y6 y7 y8))
 | 0 => ⟨fun _ _ _ _ r h => by simp [impl_StandardTable.j0] at h, fun _ _ _ _ _ _ r h => by simp [impl_StandardTable.l0] at h, fun _ _ _ _ _ _ _ _ _ r h => by simp [impl_StandardTable.l1] at h⟩
 | k + 1 => by
  obtain ⟨ih0, ih1, ih2⟩ := impl_StandardTable.mono_l k
  refine ⟨?_, ?_, ?_⟩
  ·intro y0 y1 y2 y3
   unfold impl_StandardTable.j0
   repeat' first
   | (with_reducible exact ih0 _ _ _ _)
   | (with_reducible exact ih1 _ _ _ _ _ _)
   | (with_reducible exact ih2 _ _ _ _ _ _ _ _ _)
   | (with_reducible exact impl_StandardPort.mono _ _ _ _ _ _)
   | (with_reducible exact LeO.refl _)
   | (with_reducible exact LeO.none _)
   | (with_reducible refine LeO.ite ?_ ?_)
   | (with_reducible refine LeO.bind ?_ (fun _ => ?_))
   | exact ih0 _ _ _ _
   | exact ih1 _ _ _ _ _ _
   | exact ih2 _ _ _ _ _ _ _ _ _
   | exact impl_StandardPort.mono _ _ _ _ _ _
   | exact LeO.none _
   | refine LeO.ite ?_ ?_
   | refine LeO.bind ?_ (fun _ => ?_)
  ·intro y0 y1 y2 y3 y4 y5
   unfold impl_StandardTable.l0
   repeat' first
   | (with_reducible exact ih0 _ _ _ _)
   | (with_reducible exact ih1 _ _ _ _ _ _)
   | (with_reducible exact ih2 _ _ _ _ _ _ _ _ _)
   | (with_reducible exact impl_StandardPort.mono _ _ _ _ _ _)
   | (with_reducible exact LeO.refl _)
   | (with_reducible exact LeO.none _)
   | (with_reducible refine LeO.ite ?_ ?_)
   | (with_reducible refine LeO.bind ?_ (fun _ => ?_))
   | exact ih0 _ _ _ _
   | exact ih1 _ _ _ _ _ _
   | exact ih2 _ _ _ _ _ _ _ _ _
   | exact impl_StandardPort.mono _ _ _ _ _ _
   | exact LeO.none _
   | refine LeO.ite ?_ ?_
   | refine LeO.bind ?_ (fun _ => ?_)
  ·intro y0 y1 y2 y3 y4 y5 y6 y7 y8
   unfold impl_StandardTable.l1
   repeat' first
   | (with_reducible exact ih0 _ _ _ _)
   | (with_reducible exact ih1 _ _ _ _ _ _)
   | (with_reducible exact ih2 _ _ _ _ _ _ _ _ _)
   | (with_reducible exact impl_StandardPort.mono _ _ _ _ _ _)
   | (with_reducible exact LeO.refl _)
   | (with_reducible exact LeO.none _)
   | (with_reducible refine LeO.ite ?_ ?_)
   | (with_reducible refine LeO.bind ?_ (fun _ => ?_))
   | exact ih0 _ _ _ _
   | exact ih1 _ _ _ _ _ _
   | exact ih2 _ _ _ _ _ _ _ _ _
   | exact impl_StandardPort.mono _ _ _ _ _ _
   | exact LeO.none _
   | refine LeO.ite ?_ ?_
   | refine LeO.bind ?_ (fun _ => ?_)
theorem impl_StandardTable.mono : ∀ a0 a1 a2 k, LeO (impl_StandardTable.f k a0 a1 a2) (impl_StandardTable.f (k + 1) a0 a1 a2) := by
 intro a0 a1 a2 k
 obtain ⟨ih0, ih1, ih2⟩ := impl_StandardTable.mono_l k
 unfold impl_StandardTable.f
 repeat' first
   | (with_reducible exact ih0 _ _ _ _)
   | (with_reducible exact ih1 _ _ _ _ _ _)
   | (with_reducible exact ih2 _ _ _ _ _ _ _ _ _)
   | (with_reducible exact impl_StandardPort.mono _ _ _ _ _ _)
   | (with_reducible exact LeO.refl _)
   | (with_reducible exact LeO.none _)
   | (with_reducible refine LeO.ite ?_ ?_)
   | (with_reducible refine LeO.bind ?_ (fun _ => ?_))
   | exact ih0 _ _ _ _
   | exact ih1 _ _ _ _ _ _
   | exact ih2 _ _ _ _ _ _ _ _ _
   | exact impl_StandardPort.mono _ _ _ _ _ _
   | exact LeO.none _
   | refine LeO.ite ?_ ?_
   | refine LeO.bind ?_ (fun _ => ?_)
def impl_StandardTable.T10 : Bool × List (List Nat × List Nat) := (true, [([], []), ([0], [0]), ([], []), ([], []), ([], []), ([], []), ([2, 3, 4, 5], [2, 3, 4, 5]), ([6], [6]), ([1, 7, 6], [1, 7]), ([0, 1, 2, 3, 4, 5, 6, 7, 8], []), ([9, 8, 8, 0, 1, 2, 3, 4, 5, 6, 7, 8], [8, 9])])
def impl_StandardTable.B10 : List Nat := [0, 1, 0, 0, 0, 0, 60, 124, 255, 511, 1023]
theorem impl_StandardTable.tab10 : rtab .any (opsOf Try.f52 10) = impl_StandardTable.T10 := by kernel_rfl
theorem impl_StandardTable.bits10 : waitsOk impl_StandardTable.T10.2 impl_StandardTable.B10 = true := by kernel_rfl
set_option maxHeartbeats 8000000 in
set_option maxRecDepth 100000 in
theorem impl_StandardTable.calls (k : Nat) (a0_0 : Int) (a0_1 : Int) (a1 : Int) (r1 : List Int) (r2 : Bool) (w : World) (h : impl_StandardTable.f k a0_0 a0_1 a1 = some (r1, r2)) :
  Calls Try.prog 52 #[.agg #[.int .i64 a0_0, .int .i64 a0_1], .int .i64 a1] w fun e w' => ∃ v0_ : Value, e = .returned (.tuple #[.agg #[v0_], .bool r2]) ∧ Kd.R (Kd.int .i64) 3 w' w.heap.size (fun _ => True) v0_ r1 ∧ Below w.heap.size w w' := by
 have hu42 := Try.underlying42
 have hu46 := Try.underlying46
 have HB := Aside0.mk (Below.refl w.heap.size w)
 have H : ((impl_GridOk.f a0_0 a0_1).bind fun t162 => (if t162 = true then ((impl_inside.f a1 1 4).bind fun t163 => (impl_StandardTable.j0 k a1 (!t163) a0_0 a0_1)) else (impl_StandardTable.j0 k a1 true a0_0 a0_1))) = some (r1, r2) := h
 clear h
 have HC3 := Aside0.mk H
 clear H
 go_enter Try.func52, Try.ntmps52
 go_upto_region 1 with (first | ((with_reducible refine gate_dst (N := 2) rfl ?_); refine box_event ?hg (N := 2) ?hd (cs := #[.int .i64 a0_0, .int .i64 a0_1]) (t := 42) ?hr ?_; (case hd => rfl); (case hg => rfl); (case hr => first | (go_simp; done) | (go_simp; rfl)); intro gb160 hg w4 hbox hb; have BK160 := Aside0.mk (hbox); have GW160 := Aside0.mk ((by rw [hg]; exact (bz_ HB.out) : w.heap.size ≤ gb160)); have GE160 := Aside0.mk ((by rw [hg]; exact (bz_ HB.out) : w.heap.size ≤ gb160)); replace HB := Aside0.mk (bs_ HB.out hb); clear hb hbox hg) | ((with_reducible refine gate_dst (N := 4) rfl ?_); refine box_event ?hg (N := 4) ?hd (cs := #[.slice none 0 0]) (t := 46) ?hr ?_; (case hd => rfl); (case hg => rfl); (case hr => first | (go_simp; done) | (go_simp; rfl)); intro gb161 hg w5 hbox hb; have BK161 := Aside0.mk (hbox); have GW161 := Aside0.mk ((by rw [hg]; exact (bz_ HB.out) : w.heap.size ≤ gb161)); have GE161 := Aside0.mk ((by rw [hg]; exact (bz_ HB.out) : w.heap.size ≤ gb161)); replace HB := Aside0.mk (bs_ HB.out hb); have NB160_161 := Aside0.mk ((by rw [hg]; exact Nat.ne_of_lt (bl_ BK160.out) : gb160 ≠ gb161)); have NB161_160 := Aside0.mk ((by rw [hg]; exact Nat.ne_of_gt (bl_ BK160.out) : gb161 ≠ gb160)); replace BK160 := Aside0.mk (bk_ BK160.out hb); clear hb hbox hg))
 (try simp only [Act.put, List.setIfInBounds_toArray, List.set_cons_zero, List.set_cons_succ])
 go_cut [16] (fun v16 wc => ∃ (kq : Nat) (x16_2 : Bool), v16 = .bool x16_2 ∧ Aside0 (impl_StandardTable.j0 kq a1 x16_2 a0_0 a0_1 = some (r1, r2)) ∧ Aside0 (kq ≤ k) ∧ Aside0 (wc.heap[gb160]? = some (.cells #[.int .i64 a0_0, .int .i64 a0_1] 42 (0, 0))) ∧ Aside0 (wc.heap[gb161]? = some (.cells #[(.slice none 0 0)] 46 (0, 0))) ∧ Aside0 (Below w.heap.size w wc))
 case first =>
  have H := HC3.out
  clear HC3
  replace H := Option.bind_eq_some_iff.mp H
  obtain ⟨t162, A60, H⟩ := H
  try dsimp only at H
  have A6 := Aside0.mk A60
  clear A60
  by_cases c7 : t162 = true
  ·subst c7
   rw [if_pos rfl] at H
   replace H := Option.bind_eq_some_iff.mp H
   obtain ⟨t163, A80, H⟩ := H
   try dsimp only at H
   have A8 := Aside0.mk A80
   clear A80
   have H' := Aside0.mk H
   clear H
   have hnb9 := NB160_161.out
   have hnc9 := NB161_160.out
   obtain ⟨hcz10_0, hcz10_1, hfz10_0, hfz10_1⟩ := cz2_ BK160.out
   go_wp2_with (first | ((with_reducible refine gate_callee (f := 93) rfl ?_); refine gm_ (some 10) Try.func93 #[.agg #[.int .i64 a0_0, .int .i64 a0_1]] rfl ?_; (with_reducible refine (impl_GridOk.calls a0_0 a0_1 true _ A6.out).mono ?_); rintro e w11 ⟨rfl, hb⟩; refine ⟨_, rfl, ?_⟩; replace BK160 := Aside0.mk (bk_ BK160.out hb); replace BK161 := Aside0.mk (bk_ BK161.out hb); replace HB := Aside0.mk (bs_ HB.out hb); (try clear hb)) | (go_at_call 94; (with_reducible refine (impl_inside.calls a1 1 4 t163 _ A8.out).mono ?_); rintro e w' ⟨rfl, ⟨nd, rfl⟩⟩))
   go_meet
   case rel => exact ⟨_, (!t163), ef_, H', ⟨kq_⟩, ⟨bq_ BK160.out⟩, ⟨bq_ BK161.out⟩, ⟨bb_ HB.out⟩⟩
  ·replace c7 := Bool.eq_false_iff.mpr c7
   subst c7
   rw [if_neg (show ¬ (false = true) by decide)] at H
   have H' := Aside0.mk H
   clear H
   have hnb12 := NB160_161.out
   have hnc12 := NB161_160.out
   obtain ⟨hcz13_0, hcz13_1, hfz13_0, hfz13_1⟩ := cz2_ BK160.out
   go_wp2_with (first | ((with_reducible refine gate_callee (f := 93) rfl ?_); refine gm_ (some 10) Try.func93 #[.agg #[.int .i64 a0_0, .int .i64 a0_1]] rfl ?_; (with_reducible refine (impl_GridOk.calls a0_0 a0_1 false _ A6.out).mono ?_); rintro e w14 ⟨rfl, hb⟩; refine ⟨_, rfl, ?_⟩; replace BK160 := Aside0.mk (bk_ BK160.out hb); replace BK161 := Aside0.mk (bk_ BK161.out hb); replace HB := Aside0.mk (bs_ HB.out hb); (try clear hb)))
   go_meet
   case rel => exact ⟨_, (true), ef_, H', ⟨kq_⟩, ⟨bq_ BK160.out⟩, ⟨bq_ BK161.out⟩, ⟨bb_ HB.out⟩⟩
 case rest =>
  clear HC3
  obtain ⟨kq, x16_2, rfl, HA, HJ2, BK160, BK161, HB⟩ := hcut
  cases kq with
  | zero => exact absurd HA.out (by simp [impl_StandardTable.j0])
  | succ kj2 =>
   have H := HA.out
   clear HA
   simp only [impl_StandardTable.j0] at H
   by_cases c15 : x16_2 = true
   ·subst c15
    rw [if_pos rfl] at H
    simp only [Option.some.injEq, Prod.mk.injEq] at H
    obtain ⟨rfl, rfl⟩ := H
    have hnb16 := NB161_160.out
    have hnc16 := NB160_161.out
    obtain ⟨hcz17_0, hfz17_0⟩ := cz1_ BK161.out
    go_wp2
    refine bodyPost_ret (results_ct rfl _ _ gb161 46 #[.slice none 0 0] (0, 0) _ rfl (by (with_reducible repeat (first | refine blk_drewN ?_ _ | refine blk_drew ?_ | refine blk_alloc ?_ _)); refine blk_put (cs := #[.slice none 0 0]) ?_ 0 _ rfl; (with_reducible repeat (first | refine blk_drewN ?_ _ | refine blk_drew ?_ | refine blk_alloc ?_ _)); exact BK161.out) Try.underlying46 rfl (by kernel_rfl)) rfl ?_
    exact ⟨_, fin_, by first | exact Kd.R_nil _ _ _ _ _ | exact Kd.N_nil _ _ _ _ _ | exact Kd.V_nil _ _ _ _ _ | exact Kd.Q_nil _ _ _ _ _ | exact Kd.S_nil _ _ _ _ _, bb_ HB.out⟩
   ·replace c15 := Bool.eq_false_iff.mpr c15
    subst c15
    rw [if_neg (show ¬ (false = true) by decide)] at H
    replace H := Option.bind_eq_some_iff.mp H
    obtain ⟨t165, A180, H⟩ := H
    try dsimp only at H
    have A18 := Aside0.mk A180
    clear A180
    have H' := Aside0.mk H
    clear H
    go_wp2_with (first | ((with_reducible refine gate_dst (N := 6) rfl ?_); refine box_event ?hg (N := 6) ?hd (cs := #[.slice none 0 0]) (t := 46) ?hr ?_; (case hd => rfl); (case hg => rfl); (case hr => first | (go_simp; done) | (go_simp; rfl)); intro gb164 hg w19 hbox hb; have BK164 := Aside0.mk (hbox); have GW164 := Aside0.mk ((by rw [hg]; exact (bz_ HB.out) : w.heap.size ≤ gb164)); have GE164 := Aside0.mk ((by rw [hg]; exact (bz_ HB.out) : w.heap.size ≤ gb164)); replace HB := Aside0.mk (bs_ HB.out hb); have NB160_164 := Aside0.mk ((by rw [hg]; exact Nat.ne_of_lt (bl_ BK160.out) : gb160 ≠ gb164)); have NB164_160 := Aside0.mk ((by rw [hg]; exact Nat.ne_of_gt (bl_ BK160.out) : gb164 ≠ gb160)); replace BK160 := Aside0.mk (bk_ BK160.out hb); have NB161_164 := Aside0.mk ((by rw [hg]; exact Nat.ne_of_lt (bl_ BK161.out) : gb161 ≠ gb164)); have NB164_161 := Aside0.mk ((by rw [hg]; exact Nat.ne_of_gt (bl_ BK161.out) : gb164 ≠ gb161)); replace BK161 := Aside0.mk (bk_ BK161.out hb); clear hb hbox hg; have hnb20 := NB164_160.out; have hnc20 := NB160_164.out; have hnb21 := NB164_161.out; have hnc21 := NB161_164.out; obtain ⟨hcz22_0, hfz22_0⟩ := cz1_ BK164.out; have hnb23 := NB160_161.out; have hnc23 := NB161_160.out; obtain ⟨hcz24_0, hcz24_1, hfz24_0, hfz24_1⟩ := cz2_ BK160.out) | ((with_reducible refine gate_callee (f := 95) rfl ?_); refine gm_ (some 20) Try.func95 #[.agg #[.int .i64 a0_0, .int .i64 a0_1]] rfl ?_; (with_reducible refine (impl_NodeCount.calls a0_0 a0_1 t165 _ A18.out).mono ?_); rintro e w25 ⟨rfl, hb⟩; refine ⟨_, rfl, ?_⟩; replace BK160 := Aside0.mk (blk_below (bf_ BK160.out) hb); replace BK161 := Aside0.mk (blk_below (bf_ BK161.out) hb); replace BK164 := Aside0.mk (blk_below (g := gb164) (o := .cells #[.slice none 0 0] 46 (0, 0)) (by (with_reducible repeat (first | refine blk_drewN ?_ _ | refine blk_drew ?_ | refine blk_alloc ?_ _)); refine blk_put (cs := #[.slice none 0 0]) ?_ 0 _ rfl; (with_reducible repeat (first | refine blk_drewN ?_ _ | refine blk_drew ?_ | refine blk_alloc ?_ _)); exact BK164.out) hb); replace HB := Aside0.mk (bs_ HB.out hb); (try clear hb)))
    go_loopg [21] kj2 (fun kq v21 w' => ∃ (x21_2 : Int) (x165000_2 : List Int) (u165000 : Value), v21 = .int .i64 x21_2 ∧ Aside0 (impl_StandardTable.l0 kq a1 t165 x21_2 a0_0 a0_1 x165000_2 = some (r1, r2)) ∧ Aside0 (kq ≤ kj2) ∧ Aside0 (Kd.R (Kd.int .i64) 3 w' w.heap.size (fun _ => True) u165000 x165000_2) ∧ Aside0 (w'.heap[gb160]? = some (.cells #[.int .i64 a0_0, .int .i64 a0_1] 42 (0, 0))) ∧ Aside0 (w'.heap[gb161]? = some (.cells #[(.slice none 0 0)] 46 (0, 0))) ∧ Aside0 (w'.heap[gb164]? = some (.cells #[u165000] 46 (0, 0))) ∧ Aside0 (Below w.heap.size w w'))
    case atStart => exact ⟨(0), (([] : List Int)), (.slice none 0 0), ef_, H', ⟨Nat.le_refl _⟩, ⟨by first | exact Kd.R_nil _ _ _ _ _ | exact Kd.N_nil _ _ _ _ _ | exact Kd.V_nil _ _ _ _ _ | exact Kd.Q_nil _ _ _ _ _ | exact Kd.S_nil _ _ _ _ _⟩, ⟨bq_ BK160.out⟩, ⟨bq_ BK161.out⟩, ⟨bq_ BK164.out⟩, ⟨bb_ HB.out⟩⟩
    case round =>
     clear H'
     try clear c15
     try clear hcz22_0 hfz22_0
     try clear hcz24_0 hcz24_1 hfz24_0 hfz24_1
     obtain ⟨x21_2, x165000_2, u165000, rfl, HA, HK2, HO_165000, BK160, BK161, BK164, HB⟩ := hrel
     cases gk with
     | zero => exact absurd HA.out (by simp [impl_StandardTable.l0])
     | succ k2 =>
      have H := HA.out
      clear HA
      simp only [impl_StandardTable.l0] at H
      by_cases c26 : x21_2 < t165
      ·rw [if_pos c26] at H
       have c26b0 : decide (x21_2 < t165) = true := decide_eq_true c26
       clear c26
       replace H := Option.bind_eq_some_iff.mp H
       obtain ⟨t166, A270, H⟩ := H
       try dsimp only at H
       have A27 := Aside0.mk A270
       clear A270
       have H' := Aside0.mk H
       clear H
       have hnb28 := NB160_161.out
       have hnc28 := NB161_160.out
       have hnb29 := NB160_164.out
       have hnc29 := NB164_160.out
       obtain ⟨hcz30_0, hcz30_1, hfz30_0, hfz30_1⟩ := cz2_ BK160.out
       go_wp2_with (first | ((with_reducible refine gate_callee (f := 95) rfl ?_); refine gm_ (some 25) Try.func95 #[.agg #[.int .i64 a0_0, .int .i64 a0_1]] rfl ?_; (with_reducible refine (impl_NodeCount.calls a0_0 a0_1 t166 _ A27.out).mono ?_); rintro e w31 ⟨rfl, hb⟩; refine ⟨_, rfl, ?_⟩; replace HO_165000 := Aside0.mk (Kd.R_below (ra_ HO_165000.out) hb); replace BK160 := Aside0.mk (bk_ BK160.out hb); replace BK161 := Aside0.mk (bk_ BK161.out hb); replace BK164 := Aside0.mk (bk_ BK164.out hb); replace HB := Aside0.mk (bs_ HB.out hb); (try clear hb)))
       go_loopg [26] k2 (fun kq v26 w' => ∃ (x26_3 : Int) (x165000_3 : List Int) (u165000 : Value), v26 = .int .i64 x26_3 ∧ Aside0 (impl_StandardTable.l1 kq a1 x21_2 t165 x21_2 t166 x26_3 a0_0 a0_1 x165000_3 = some (r1, r2)) ∧ Aside0 (kq ≤ k2) ∧ Aside0 (Kd.R (Kd.int .i64) 3 w' w.heap.size (fun _ => True) u165000 x165000_3) ∧ Aside0 (w'.heap[gb160]? = some (.cells #[.int .i64 a0_0, .int .i64 a0_1] 42 (0, 0))) ∧ Aside0 (w'.heap[gb161]? = some (.cells #[(.slice none 0 0)] 46 (0, 0))) ∧ Aside0 (w'.heap[gb164]? = some (.cells #[u165000] 46 (0, 0))) ∧ Aside0 (Below w.heap.size w w'))
       case atStart => exact ⟨(0), (x165000_2), (u165000), ef_, H', ⟨Nat.le_refl _⟩, ⟨by (with_reducible repeat (first | apply Kd.R_alloc | apply Kd.R_drewN | apply Kd.R_drew)); exact HO_165000.out⟩, ⟨bq_ BK160.out⟩, ⟨bq_ BK161.out⟩, ⟨bq_ BK164.out⟩, ⟨bb_ HB.out⟩⟩
       case round =>
        clear H'
        try clear c15
        try clear c26
        try clear c26b0
        try clear hcz22_0 hfz22_0
        try clear hcz24_0 hcz24_1 hfz24_0 hfz24_1
        try clear hcz30_0 hcz30_1 hfz30_0 hfz30_1
        obtain ⟨x26_3, x165000_3, u165000, rfl, HA, HK3, HO_165000, BK160, BK161, BK164, HB⟩ := hrel
        cases gk with
        | zero => exact absurd HA.out (by simp [impl_StandardTable.l1])
        | succ k3 =>
         have H := HA.out
         clear HA
         simp only [impl_StandardTable.l1] at H
         by_cases c32 : x26_3 < t166
         ·rw [if_pos c32] at H
          have c32b0 : decide (x26_3 < t166) = true := decide_eq_true c32
          clear c32
          replace H := Option.bind_eq_some_iff.mp H
          obtain ⟨t167, A330, H⟩ := H
          try dsimp only at H
          have A33 := Aside0.mk A330
          clear A330
          by_cases c34 : x165000_3.length < 17592186044416
          ·rw [if_pos c34] at H
           have LMc34 := Aside0.mk c34
           clear c34
           obtain ⟨y168, hy168⟩ : ∃ y_ : List Int, y_ = (x165000_3 ++ [t167]) := ⟨_, rfl⟩
           replace H : (impl_StandardTable.l1 k3 a1 x21_2 t165 x21_2 t166 (wrap64 (x26_3 + 1)) a0_0 a0_1 y168) = some (r1, r2) := by first | (rw [hy168]; with_reducible exact H) | (have H2_ := (Option.bind_some _ _).symm.trans H; rw [hy168]; with_reducible exact H2_) | (have H2_ := (Option.bind_some _ _).symm.trans H; with_reducible exact H2_) | with_reducible exact H | (rw [hy168]; exact H) | exact H
           have Ny168 := Aside0.mk hy168
           clear hy168
           have H' := Aside0.mk H
           clear H
           try go_wp2
           have n0_ := Aside0.mk (Kd.R_drew HO_165000.out)
           have n1_ := Aside0.mk (blk_drew BK160.out)
           have n2_ := Aside0.mk (blk_drew BK161.out)
           have n3_ := Aside0.mk (blk_drew BK164.out)
           have n4_ := Aside0.mk (below_drew1 HB.out)
           clear HO_165000
           clear BK160
           clear BK161
           clear BK164
           clear HB
           have HO_165000 := n0_
           have BK160 := n1_
           have BK161 := n2_
           have BK164 := n3_
           have HB := n4_
           clear n0_ n1_ n2_ n3_ n4_
           refine start_ (n := 11) (S := fun w' => w'.cell? ⟨gb164, 0, none⟩ = some (u165000) ∧ w'.cell? ⟨gb160, 0, none⟩ = some (.int .i64 a0_0) ∧ w'.cell? ⟨gb160, 1, none⟩ = some (.int .i64 a0_1)) (ds := [10]) #[false, false, false, false, false, false, false, false, false, false, false] (by kernel_rfl) rfl rfl ⟨(blk_cell BK164.out 0).trans rfl, (blk_cell BK160.out 0).trans rfl, (blk_cell BK160.out 1).trans rfl⟩ (fun hHeld => ?_); refine with_tabW impl_StandardTable.tab10 impl_StandardTable.bits10 (fun HT_ HW_ => ?_)
           generalize wr.drew = w35 at HO_165000 BK160 BK161 BK164 HB hHeld ⊢
           refine pu_ 0 29 (bt_ 11 1) HT_ ?_
           refine pu_ 3 32 (bt_ 11 9) HT_ ?_
           refine pu_ 4 33 (bt_ 11 25) HT_ ?_
           refine pu_ 5 34 (bt_ 11 57) HT_ ?_
           refine take_ (i := 1) (N := some 30) (v := ?_) (a' := ?_) (bt_ 11 59) rfl rfl (take_ofW HT_.out HW_.out (by kernel_rfl)) (fun _ _ _ h => h) (Or.inl ⟨by rfl, ?_⟩) hHeld ?_ ?_
           rotate_left
           ·rintro w' ⟨s0, s1, s2⟩
            go_simp
            with_reducible rfl
           rotate_left
           ·simp only [Act.put, List.setIfInBounds_toArray, List.set_cons_zero, List.set_cons_succ, i64_w, i32_w]
            rfl
           refine take_ (i := 2) (N := some 31) (v := ?_) (a' := ?_) (bt_ 11 63) rfl rfl (take_ofW HT_.out HW_.out (by kernel_rfl)) (fun _ _ _ h => h) (Or.inl ⟨by rfl, ?_⟩) hHeld ?_ ?_
           rotate_left
           ·rintro w' ⟨s0, s1, s2⟩
            go_simp
            with_reducible rfl
           rotate_left
           ·simp only [Act.put, List.setIfInBounds_toArray, List.set_cons_zero, List.set_cons_succ, i64_w, i32_w]
            rfl
           refine one_ (i := 6) (N := some 35) (bt_ 11 127) rfl rfl (one_of HT_.out (by kernel_rfl)) (by decide) (fun K hK => ?_)
           refine goes_ Try.func96 (by kernel_rfl) rfl #[.agg #[.int .i64 a0_0, .int .i64 a0_1], .int .i64 a1, .int .i64 x21_2, .int .i64 x26_3] (by rfl) rfl rfl (by (try simp only [List.map_toArray, List.map_cons, List.map_nil]); first | done | rfl | (simp only [List.length_drop, List.length_take]; rfl)) ?_
           with_reducible refine (impl_StandardPort.calls k3 a0_0 a0_1 a1 x21_2 x26_3 t167 _ A33.out).mono ?_
           rintro e w36 ⟨rfl, hb⟩
           refine ⟨_, rfl, ?_⟩
           have n0_ := Aside0.mk (Kd.R_below (ra_ HO_165000.out) hb)
           have n1_ := Aside0.mk (bk_ BK160.out hb)
           have n2_ := Aside0.mk (bk_ BK161.out hb)
           have n3_ := Aside0.mk (bk_ BK164.out hb)
           have n4_ := Aside0.mk (bs_ HB.out hb)
           clear HO_165000
           clear BK160
           clear BK161
           clear BK164
           clear HB
           have HO_165000 := n0_
           have BK160 := n1_
           have BK161 := n2_
           have BK164 := n3_
           have HB := n4_
           clear n0_ n1_ n2_ n3_ n4_
           (try clear hb)
           (try clear hb2)
           (try clear hk)
           (try clear hi)
           refine hK.out _ _ ⟨(blk_cell BK164.out 0).trans rfl, (blk_cell BK160.out 0).trans rfl, (blk_cell BK160.out 1).trans rfl⟩ (fun hHeld => ?_)
           clear hK K
           refine norm_ (a' := ?_) ?_ ?_
           rotate_left
           ·show Act.put _ (some 35) _ = _
            simp only [Act.put, List.setIfInBounds_toArray, List.set_cons_zero, List.set_cons_succ, i64_w, i32_w]
            rfl
           refine one_ (i := 7) (N := some 36) (bt_ 11 255) rfl rfl (one_of HT_.out (by kernel_rfl)) (by decide) (fun K hK => ?_)
           refine value_ (w1 := ?_) (v := ?_) (by rfl) rfl ?_ ?_
           rotate_left 2
           ·go_simp
            constructor
            ·rfl
            ·rfl
           refine hK.out _ _ ⟨(blk_cell (blk_alloc BK164.out _) 0).trans rfl, (blk_cell (blk_alloc BK160.out _) 0).trans rfl, (blk_cell (blk_alloc BK160.out _) 1).trans rfl⟩ (fun hHeld => ?_)
           clear hK K
           refine norm_ (a' := ?_) ?_ ?_
           rotate_left
           ·show Act.put _ (some 36) _ = _
            simp only [Act.put, List.setIfInBounds_toArray, List.set_cons_zero, List.set_cons_succ, i64_w, i32_w]
            rfl
           refine one_ (i := 8) (N := some 37) (bt_ 11 511) rfl rfl (one_of HT_.out (by kernel_rfl)) (by decide) (fun K hK => ?_)
           refine Kd.R_append_step (Kd.int .i64) (w0 := w) w.heap.size (by rfl) (.tmp 30) (.tmp 36) 29 3 (.int .i64 0) 8 rfl Try.underlying29 info3 rfl (by decide) (by omega) u165000 x165000_3 t167 [.int .i64 t167] (fun _ => True) (fun _ => False) rfl rfl ?aP (fun _ hk => hk.elim) ?aF ?aO ?aB ?aS ?aL ?_
           (case aP => exact rfl)
           (case aB => exact (by repeat (first | (with_reducible first | exact HB.out | apply below_alloc | apply pw_below_drewN | apply below_drew1 | refine below_set ?_ GE160.out | refine below_set ?_ GE161.out | refine below_set ?_ GE164.out) | exact HB.out)))
           (case aF => exact (fun _ _ => trivial))
           (case aO => exact (ra_ HO_165000.out))
           (case aS => exact (bz_ HB.out))
           (case aL => have := LMc34.out; omega)
           intro v169 w37 ho hb hg hat
           rw [← Ny168.out] at ho
           have n0_ := Aside0.mk (blk_grown (g := gb160) (o := .cells #[.int .i64 a0_0, .int .i64 a0_1] 42 (0, 0)) (by (with_reducible repeat (first | refine blk_drewN ?_ _ | refine blk_drew ?_ | refine blk_alloc ?_ _)); exact BK160.out) hg (Kd.R_ne HO_165000.out BK160.out (by decide)))
           have n1_ := Aside0.mk (blk_grown (g := gb161) (o := .cells #[.slice none 0 0] 46 (0, 0)) (by (with_reducible repeat (first | refine blk_drewN ?_ _ | refine blk_drew ?_ | refine blk_alloc ?_ _)); exact BK161.out) hg (Kd.R_ne HO_165000.out BK161.out (by decide)))
           have n2_ := Aside0.mk (blk_grown (g := gb164) (o := .cells #[u165000] 46 (0, 0)) (by (with_reducible repeat (first | refine blk_drewN ?_ _ | refine blk_drew ?_ | refine blk_alloc ?_ _)); exact BK164.out) hg (Kd.R_ne HO_165000.out BK164.out (by decide)))
           have n3_ := Aside0.mk (hb)
           have n4_ := Aside0.mk (ho)
           clear BK160
           clear BK161
           clear BK164
           clear HB
           clear HO_165000
           have BK160 := n0_
           have BK161 := n1_
           have BK164 := n2_
           have HB := n3_
           have HO170 := n4_
           clear n0_ n1_ n2_ n3_ n4_
           clear ho hb hg hat
           obtain ⟨Ao38, co38, eo38⟩ := Kd.R_slice HO170.out
           (first | subst eo38 | (injection eo38 with f1_ f2_ f3_; have f4_ := f1_.symm; have f5_ := f3_.symm; clear f1_ f2_ f3_; subst f4_; subst f5_))
           refine hK.out _ _ ⟨(blk_cell BK164.out 0).trans rfl, (blk_cell BK160.out 0).trans rfl, (blk_cell BK160.out 1).trans rfl⟩ (fun hHeld => ?_)
           clear hK K
           refine norm_ (a' := ?_) ?_ ?_
           rotate_left
           ·show Act.put _ (some 37) _ = _
            simp only [Act.put, List.setIfInBounds_toArray, List.set_cons_zero, List.set_cons_succ, i64_w, i32_w]
            rfl
           refine pu_ 9 38 (bt_ 11 1023) HT_ ?_
           refine last_ (i := 10) (N := none) (bt_ 11 2047) rfl rfl (one_of HT_.out (by kernel_rfl)) (by decide) (fun K hK => ?_)
           have hs39 : w37.cell? ⟨gb164, 0, none⟩ = some (u165000) := (blk_cell BK164.out 0).trans rfl
           have hfs39 := blk_frozen BK164.out 0
           have hns39_0 := NB160_164.out
           have hns39_1 := NB161_164.out
           have hms39_0 := NB164_160.out
           have hms39_1 := NB164_161.out
           refine skip_ (w1 := ?_) (by rfl) rfl ?_ ?_
           rotate_left
           ·go_simp
            rfl
           refine hK.out _ _ ?_
           clear hK K
           refine done_ (done_of HT_.out (by kernel_rfl)) ?_
           try go_wp2
           go_roundg k3
           case measure => have := HJ2.out; have := HK2.out; have := HK3.out; omega
           case rel => exact ⟨(wrap64 (x26_3 + 1)), (y168), (.slice Ao38 y168.length co38), ef_, H', ⟨by have := HJ2.out; have := HK2.out; have := HK3.out; omega⟩, ⟨rm_ (Kd.R_types HO170.out BK164.out (by decide)) (fun _ hk => trivial)⟩, ⟨by (with_reducible repeat (first | refine blk_drewN ?_ _ | refine blk_drew ?_ | refine blk_alloc ?_ _)); refine blk_far ?_ NB160_164.out _; (with_reducible repeat (first | refine blk_drewN ?_ _ | refine blk_drew ?_ | refine blk_alloc ?_ _)); exact BK160.out⟩, ⟨by (with_reducible repeat (first | refine blk_drewN ?_ _ | refine blk_drew ?_ | refine blk_alloc ?_ _)); refine blk_far ?_ NB161_164.out _; (with_reducible repeat (first | refine blk_drewN ?_ _ | refine blk_drew ?_ | refine blk_alloc ?_ _)); exact BK161.out⟩, ⟨by (with_reducible repeat (first | refine blk_drewN ?_ _ | refine blk_drew ?_ | refine blk_alloc ?_ _)); refine blk_put (cs := #[u165000]) ?_ 0 _ rfl; (with_reducible repeat (first | refine blk_drewN ?_ _ | refine blk_drew ?_ | refine blk_alloc ?_ _)); exact BK164.out⟩, ⟨bb_ HB.out⟩⟩
          ·rw [if_neg c34] at H
           exact absurd H (by simp)
         ·rw [if_neg c32] at H
          have c32b0 : decide (x26_3 < t166) = false := decide_eq_false c32
          clear c32
          have H' := Aside0.mk H
          clear H
          go_wp2
          go_roundg k3
          case measure => have := HJ2.out; have := HK2.out; have := HK3.out; omega
          case rel => exact ⟨(wrap64 (x21_2 + 1)), (x165000_3), (u165000), ef_, H', ⟨by have := HJ2.out; have := HK2.out; have := HK3.out; omega⟩, ⟨by (with_reducible repeat (first | apply Kd.R_alloc | apply Kd.R_drewN | apply Kd.R_drew)); exact HO_165000.out⟩, ⟨bq_ BK160.out⟩, ⟨bq_ BK161.out⟩, ⟨bq_ BK164.out⟩, ⟨bb_ HB.out⟩⟩
      ·rw [if_neg c26] at H
       have c26b0 : decide (x21_2 < t165) = false := decide_eq_false c26
       clear c26
       simp only [Option.some.injEq, Prod.mk.injEq] at H
       obtain ⟨rfl, rfl⟩ := H
       have hnb40 := NB164_160.out
       have hnc40 := NB160_164.out
       have hnb41 := NB164_161.out
       have hnc41 := NB161_164.out
       obtain ⟨hcz42_0, hfz42_0⟩ := cz1_ BK164.out
       obtain ⟨Ao43, co43, eo43⟩ := Kd.R_slice HO_165000.out
       subst eo43
       have hnb44 := NB161_160.out
       have hnc44 := NB160_161.out
       obtain ⟨hcz45_0, hfz45_0⟩ := cz1_ BK161.out
       go_wp2
       refine bodyPost_ret (results_ct rfl _ _ gb161 46 #[.slice Ao43 x165000_2.length co43] (0, 0) _ rfl (by (with_reducible repeat (first | refine blk_drewN ?_ _ | refine blk_drew ?_ | refine blk_alloc ?_ _)); refine blk_put (cs := #[.slice none 0 0]) ?_ 0 _ rfl; (with_reducible repeat (first | refine blk_drewN ?_ _ | refine blk_drew ?_ | refine blk_alloc ?_ _)); exact BK161.out) Try.underlying46 rfl (by kernel_rfl)) rfl ?_
       exact ⟨_, fin_, rm_ (Kd.R_types HO_165000.out BK161.out (by decide)) (fun _ hk => trivial), bb_ HB.out⟩

/-! ### impl_SplitClasses: function 54 -/
def impl_SplitClasses.f (k : Nat) (a0_0 : Int) (a0_1 : Int) : Option (List Int × List Int × Bool) := (impl_StandardTable.f k a0_0 a0_1 1).bind fun bt173 => ((impl_StandardTable.f k a0_0 a0_1 2).bind fun bt178 => (some (bt173.1, bt178.1, bt173.2)))
theorem impl_SplitClasses.mono : ∀ a0 a1 k, LeO (impl_SplitClasses.f k a0 a1) (impl_SplitClasses.f (k + 1) a0 a1) := by
 intro a0 a1 k
 unfold impl_SplitClasses.f
 repeat' first
   | (with_reducible exact impl_StandardTable.mono _ _ _ _)
   | (with_reducible exact LeO.refl _)
   | (with_reducible exact LeO.none _)
   | (with_reducible refine LeO.ite ?_ ?_)
   | (with_reducible refine LeO.bind ?_ (fun _ => ?_))
   | exact impl_StandardTable.mono _ _ _ _
   | exact LeO.none _
   | refine LeO.ite ?_ ?_
   | refine LeO.bind ?_ (fun _ => ?_)
set_option maxHeartbeats 8000000 in
set_option maxRecDepth 100000 in
theorem impl_SplitClasses.calls (k : Nat) (a0_0 : Int) (a0_1 : Int) (r1 : List Int) (r2 : List Int) (r3 : Bool) (w : World) (h : impl_SplitClasses.f k a0_0 a0_1 = some (r1, r2, r3)) :
  Calls Try.prog 54 #[.agg #[.int .i64 a0_0, .int .i64 a0_1]] w fun e w' => ∃ v0_ v1_ : Value, e = .returned (.tuple #[.agg #[v0_, v1_], .bool r3]) ∧ Kd.R (Kd.int .i64) 3 w' w.heap.size (fun k_ => some k_ ≠ (v1_ : Value).ownBlock) v0_ r1 ∧ Kd.R (Kd.int .i64) 3 w' w.heap.size (fun k_ => some k_ ≠ (v0_ : Value).ownBlock) v1_ r2 ∧ Below w.heap.size w w' := by
 have hu42 := Try.underlying42
 have hu70 := Try.underlying70
 have hu46 := Try.underlying46
 have HB := Aside0.mk (Below.refl w.heap.size w)
 have H : ((impl_StandardTable.f k a0_0 a0_1 1).bind fun bt173 => ((impl_StandardTable.f k a0_0 a0_1 2).bind fun bt178 => (some (bt173.1, bt178.1, bt173.2)))) = some (r1, r2, r3) := h
 clear h
 replace H := Option.bind_eq_some_iff.mp H
 obtain ⟨⟨t173, t176⟩, A20, H⟩ := H
 try dsimp only at H
 have A2 := Aside0.mk A20
 clear A20
 replace H := Option.bind_eq_some_iff.mp H
 obtain ⟨⟨t178, t181⟩, A30, H⟩ := H
 try dsimp only at H
 have A3 := Aside0.mk A30
 clear A30
 simp only [Option.some.injEq, Prod.mk.injEq] at H
 obtain ⟨rfl, rfl, rfl⟩ := H
 go_enter Try.func54, Try.ntmps54
 go_wp2_with (first | ((with_reducible refine gate_dst (N := 1) rfl ?_); refine box_event ?hg (N := 1) ?hd (cs := #[.int .i64 a0_0, .int .i64 a0_1]) (t := 42) ?hr ?_; (case hd => rfl); (case hg => rfl); (case hr => first | (go_simp; done) | (go_simp; rfl)); intro gb171 hg w4 hbox hb; have BK171 := Aside0.mk (hbox); have GW171 := Aside0.mk ((by rw [hg]; exact (bz_ HB.out) : w.heap.size ≤ gb171)); have GE171 := Aside0.mk ((by rw [hg]; exact (bz_ HB.out) : w.heap.size ≤ gb171)); replace HB := Aside0.mk (bs_ HB.out hb); clear hb hbox hg) | ((with_reducible refine gate_dst (N := 2) rfl ?_); refine box_event ?hg (N := 2) ?hd (cs := #[.slice none 0 0, .slice none 0 0]) (t := 70) ?hr ?_; (case hd => rfl); (case hg => rfl); (case hr => first | (go_simp; done) | (go_simp; rfl)); intro gb172 hg w5 hbox hb; have BK172 := Aside0.mk (hbox); have GW172 := Aside0.mk ((by rw [hg]; exact (bz_ HB.out) : w.heap.size ≤ gb172)); have GE172 := Aside0.mk ((by rw [hg]; exact (bz_ HB.out) : w.heap.size ≤ gb172)); replace HB := Aside0.mk (bs_ HB.out hb); have NB171_172 := Aside0.mk ((by rw [hg]; exact Nat.ne_of_lt (bl_ BK171.out) : gb171 ≠ gb172)); have NB172_171 := Aside0.mk ((by rw [hg]; exact Nat.ne_of_gt (bl_ BK171.out) : gb172 ≠ gb171)); replace BK171 := Aside0.mk (bk_ BK171.out hb); clear hb hbox hg; have hnb6 := NB171_172.out; have hnc6 := NB172_171.out; obtain ⟨hcz7_0, hcz7_1, hfz7_0, hfz7_1⟩ := cz2_ BK171.out) | ((with_reducible refine gate_callee (f := 52) rfl ?_); refine gm_ (some 10) Try.func52 #[.agg #[.int .i64 a0_0, .int .i64 a0_1], .int .i64 1] rfl ?_; (with_reducible refine (impl_StandardTable.calls k a0_0 a0_1 1 t173 t176 _ A2.out).mono ?_); rintro e w8 ⟨v174, rfl, ho0, hb⟩; refine ⟨_, rfl, ?_⟩; have HO175 := Aside0.mk (Kd.R_lower ho0 (bz_ HB.out)); replace BK171 := Aside0.mk (bk_ BK171.out hb); replace BK172 := Aside0.mk (bk_ BK172.out hb); replace HB := Aside0.mk (bs_ HB.out hb); (try clear hb); (try clear ho0)) | ((with_reducible refine gate_dst (N := 4) rfl ?_); refine box_event ?hg (N := 4) ?hd (cs := #[.slice none 0 0]) (t := 46) ?hr ?_; (case hd => rfl); (case hg => rfl); (case hr => first | (go_simp; done) | (go_simp; rfl)); intro gb177 hg w9 hbox hb; replace HO175 := Aside0.mk (Kd.R_below (ra_ HO175.out) hb); have BK177 := Aside0.mk (hbox); have GW177 := Aside0.mk ((by rw [hg]; exact (bz_ HB.out) : w.heap.size ≤ gb177)); have GE177 := Aside0.mk ((by rw [hg]; exact (bz_ HB.out) : w.heap.size ≤ gb177)); replace HB := Aside0.mk (bs_ HB.out hb); have NB171_177 := Aside0.mk ((by rw [hg]; exact Nat.ne_of_lt (bl_ BK171.out) : gb171 ≠ gb177)); have NB177_171 := Aside0.mk ((by rw [hg]; exact Nat.ne_of_gt (bl_ BK171.out) : gb177 ≠ gb171)); replace BK171 := Aside0.mk (bk_ BK171.out hb); have NB172_177 := Aside0.mk ((by rw [hg]; exact Nat.ne_of_lt (bl_ BK172.out) : gb172 ≠ gb177)); have NB177_172 := Aside0.mk ((by rw [hg]; exact Nat.ne_of_gt (bl_ BK172.out) : gb177 ≠ gb172)); replace BK172 := Aside0.mk (bk_ BK172.out hb); clear hb hbox hg; obtain ⟨Ao10, co10, eo10⟩ := Kd.R_slice HO175.out; subst eo10; have hnb11 := NB177_171.out; have hnc11 := NB171_177.out; have hnb12 := NB177_172.out; have hnc12 := NB172_177.out; obtain ⟨hcz13_0, hfz13_0⟩ := cz1_ BK177.out; obtain ⟨hcz14_0, hcz14_1, hfz14_0, hfz14_1⟩ := cz2_ BK171.out) | ((with_reducible refine gate_callee (f := 52) rfl ?_); refine gm_ (some 15) Try.func52 #[.agg #[.int .i64 a0_0, .int .i64 a0_1], .int .i64 2] rfl ?_; (with_reducible refine (impl_StandardTable.calls k a0_0 a0_1 2 t178 t181 _ A3.out).mono ?_); rintro e w15 ⟨v179, rfl, ho0, hb⟩; refine ⟨_, rfl, ?_⟩; have HO180 := Aside0.mk (Kd.R_lower (Kd.R_new' ho0 (Kd.R_lt (rm_ (Kd.R_types HO175.out BK177.out (by decide)) (fun _ h_ => h_.1)))) (bz_ HB.out)); replace HO175 := Aside0.mk (Kd.R_elder' (rm_ (Kd.R_types HO175.out BK177.out (by decide)) (fun _ h_ => h_.1)) (Kd.R_base ho0) hb); replace BK171 := Aside0.mk (blk_below (bf_ BK171.out) hb); replace BK172 := Aside0.mk (blk_below (bf_ BK172.out) hb); replace BK177 := Aside0.mk (blk_below (g := gb177) (o := .cells #[.slice Ao10 t173.length co10] 46 (0, 0)) (by (with_reducible repeat (first | refine blk_drewN ?_ _ | refine blk_drew ?_ | refine blk_alloc ?_ _)); refine blk_put (cs := #[.slice none 0 0]) ?_ 0 _ rfl; (with_reducible repeat (first | refine blk_drewN ?_ _ | refine blk_drew ?_ | refine blk_alloc ?_ _)); exact BK177.out) hb); replace HB := Aside0.mk (bs_ HB.out hb); (try clear hb); (try clear ho0)) | ((with_reducible refine gate_dst (N := 6) rfl ?_); refine box_event ?hg (N := 6) ?hd (cs := #[.slice none 0 0]) (t := 46) ?hr ?_; (case hd => rfl); (case hg => rfl); (case hr => first | (go_simp; done) | (go_simp; rfl)); intro gb182 hg w16 hbox hb; replace HO175 := Aside0.mk (Kd.R_below (ra_ HO175.out) hb); replace HO180 := Aside0.mk (Kd.R_below (ra_ HO180.out) hb); have BK182 := Aside0.mk (hbox); have GW182 := Aside0.mk ((by rw [hg]; exact (bz_ HB.out) : w.heap.size ≤ gb182)); have GE182 := Aside0.mk ((by rw [hg]; exact (bz_ HB.out) : w.heap.size ≤ gb182)); replace HB := Aside0.mk (bs_ HB.out hb); have NB171_182 := Aside0.mk ((by rw [hg]; exact Nat.ne_of_lt (bl_ BK171.out) : gb171 ≠ gb182)); have NB182_171 := Aside0.mk ((by rw [hg]; exact Nat.ne_of_gt (bl_ BK171.out) : gb182 ≠ gb171)); replace BK171 := Aside0.mk (bk_ BK171.out hb); have NB172_182 := Aside0.mk ((by rw [hg]; exact Nat.ne_of_lt (bl_ BK172.out) : gb172 ≠ gb182)); have NB182_172 := Aside0.mk ((by rw [hg]; exact Nat.ne_of_gt (bl_ BK172.out) : gb182 ≠ gb172)); replace BK172 := Aside0.mk (bk_ BK172.out hb); have NB177_182 := Aside0.mk ((by rw [hg]; exact Nat.ne_of_lt (bl_ BK177.out) : gb177 ≠ gb182)); have NB182_177 := Aside0.mk ((by rw [hg]; exact Nat.ne_of_gt (bl_ BK177.out) : gb182 ≠ gb177)); replace BK177 := Aside0.mk (bk_ BK177.out hb); clear hb hbox hg; obtain ⟨Ao17, co17, eo17⟩ := Kd.R_slice HO180.out; subst eo17; have hnb18 := NB182_171.out; have hnc18 := NB171_182.out; have hnb19 := NB182_172.out; have hnc19 := NB172_182.out; have hnb20 := NB182_177.out; have hnc20 := NB177_182.out; obtain ⟨hcz21_0, hfz21_0⟩ := cz1_ BK182.out; obtain ⟨hcz22_0, hfz22_0⟩ := cz1_ BK177.out; obtain ⟨hcz23_0, hcz23_1, hfz23_0, hfz23_1⟩ := cz2_ BK172.out))
 refine bodyPost_ret (results_ct rfl _ _ gb172 70 #[.slice Ao10 t173.length co10, .slice Ao17 t178.length co17] (0, 0) _ rfl (by (with_reducible repeat (first | refine blk_drewN ?_ _ | refine blk_drew ?_ | refine blk_alloc ?_ _)); refine blk_put (cs := #[.slice Ao10 t173.length co10, .slice none 0 0]) ?_ 1 _ rfl; (with_reducible repeat (first | refine blk_drewN ?_ _ | refine blk_drew ?_ | refine blk_alloc ?_ _)); refine blk_put (cs := #[.slice none 0 0, .slice none 0 0]) ?_ 0 _ rfl; (with_reducible repeat (first | refine blk_drewN ?_ _ | refine blk_drew ?_ | refine blk_alloc ?_ _)); refine blk_far ?_ NB172_182.out _; (with_reducible repeat (first | refine blk_drewN ?_ _ | refine blk_drew ?_ | refine blk_alloc ?_ _)); exact BK172.out) Try.underlying70 rfl (by kernel_rfl)) rfl ?_
 exact ⟨_, _, fin_, rm_ (Kd.R_types (Kd.R_types HO175.out BK182.out (by decide)) BK172.out (by decide)) (fun _ hk => hk.1.1.2), rm_ (Kd.R_types (Kd.R_types HO180.out BK182.out (by decide)) BK172.out (by decide)) (fun _ hk => hk.1.1.2), bb_ HB.out⟩

/-! ### impl_NodeAt: function 178 -/
def impl_NodeAt.f (a0_0 : Int) (a0_1 : Int) (a1 : Int) (a2 : Int) : Option (Int) := (impl_GridOk.f a0_0 a0_1).bind fun t184 => (if t184 = true then ((impl_inside.f a1 0 (wrap64 (a0_0 - 1))).bind fun t185 => (if t185 = true then ((impl_inside.f a2 0 (wrap64 (a0_1 - 1))).bind fun t186 => (if t186 = true then (some (wrap64 ((wrap64 (a2 * a0_0)) + a1))) else (some (-1)))) else (some (-1)))) else (some (-1)))
theorem impl_NodeAt.e0 {P : Prop} (h : P := by
 go_enter Try.func178, Try.ntmps178
 go_wp2_with (first | ((with_reducible refine gate_dst (N := 3) rfl ?_); refine box_event ?hg (N := 3) ?hd (cs := #[.int .i64 a0_0, .int .i64 a0_1]) (t := 42) ?hr ?_; (case hd => rfl); (case hg => rfl); (case hr => first | (go_simp; done) | (go_simp; rfl)); intro gb183 hg w_0 hbox hb; have BK183 := Aside0.mk (hbox); have GW183 := Aside0.mk ((by rw [hg]; exact (bz_ HB.out) : w.heap.size ≤ gb183)); have GE183 := Aside0.mk ((by rw [hg]; exact (bz_ HB.out) : w.heap.size ≤ gb183)); replace HB := Aside0.mk (bs_ HB.out hb); clear hb hbox hg; obtain ⟨hcz_0, hcz_1, hfz_0, hfz_1⟩ := cz2_ BK183.out) | ((with_reducible refine gate_callee (f := 93) rfl ?_); refine gm_ (some 8) Try.func93 #[.agg #[.int .i64 a0_0, .int .i64 a0_1]] rfl ?_; (with_reducible refine (impl_GridOk.calls a0_0 a0_1 _ _ A4.out).mono ?_); rintro e w_0 ⟨rfl, hb⟩; refine ⟨_, rfl, ?_⟩; replace BK183 := Aside0.mk (bk_ BK183.out hb); replace HB := Aside0.mk (bs_ HB.out hb); (try clear hb); obtain ⟨hcz_0, hcz_1, hfz_0, hfz_1⟩ := cz2_ BK183.out) | (go_at_call 94; (with_reducible refine (impl_inside.calls a1 0 (wrap64 (a0_0 - 1)) _ _ A6.out).mono ?_); rintro e w' ⟨rfl, ⟨nd, rfl⟩⟩) | (go_at_call 94; (with_reducible refine (impl_inside.calls a2 0 (wrap64 (a0_1 - 1)) _ _ A8.out).mono ?_); rintro e w' ⟨rfl, ⟨nd, rfl⟩⟩))
 go_ret
 exact ⟨fin_, bb_ HB.out⟩) : P := h
set_option maxHeartbeats 8000000 in
set_option maxRecDepth 100000 in
theorem impl_NodeAt.calls (a0_0 : Int) (a0_1 : Int) (a1 : Int) (a2 : Int) (r : Int) (w : World) (h : impl_NodeAt.f a0_0 a0_1 a1 a2 = some r) :
  Calls Try.prog 178 #[.agg #[.int .i64 a0_0, .int .i64 a0_1], .int .i64 a1, .int .i64 a2] w fun e w' => e = .returned (.int .i64 r) ∧ Below w.heap.size w w' := by
 have hu42 := Try.underlying42
 have HB := Aside0.mk (Below.refl w.heap.size w)
 have H : ((impl_GridOk.f a0_0 a0_1).bind fun t184 => (if t184 = true then ((impl_inside.f a1 0 (wrap64 (a0_0 - 1))).bind fun t185 => (if t185 = true then ((impl_inside.f a2 0 (wrap64 (a0_1 - 1))).bind fun t186 => (if t186 = true then (some (wrap64 ((wrap64 (a2 * a0_0)) + a1))) else (some (-1)))) else (some (-1)))) else (some (-1)))) = some r := h
 clear h
 replace H := Option.bind_eq_some_iff.mp H
 obtain ⟨t184, A40, H⟩ := H
 try dsimp only at H
 have A4 := Aside0.mk A40
 clear A40
 by_cases c5 : t184 = true
 ·subst c5
  rw [if_pos rfl] at H
  replace H := Option.bind_eq_some_iff.mp H
  obtain ⟨t185, A60, H⟩ := H
  try dsimp only at H
  have A6 := Aside0.mk A60
  clear A60
  by_cases c7 : t185 = true
  ·subst c7
   rw [if_pos rfl] at H
   replace H := Option.bind_eq_some_iff.mp H
   obtain ⟨t186, A80, H⟩ := H
   try dsimp only at H
   have A8 := Aside0.mk A80
   clear A80
   by_cases c9 : t186 = true
   ·subst c9
    rw [if_pos rfl] at H
    obtain rfl := Option.some.inj H
    exact impl_NodeAt.e0
   ·replace c9 := Bool.eq_false_iff.mpr c9
    subst c9
    rw [if_neg (show ¬ (false = true) by decide)] at H
    obtain rfl := Option.some.inj H
    exact impl_NodeAt.e0
  ·replace c7 := Bool.eq_false_iff.mpr c7
   subst c7
   rw [if_neg (show ¬ (false = true) by decide)] at H
   obtain rfl := Option.some.inj H
   exact impl_NodeAt.e0
 ·replace c5 := Bool.eq_false_iff.mpr c5
  subst c5
  rw [if_neg (show ¬ (false = true) by decide)] at H
  obtain rfl := Option.some.inj H
  exact impl_NodeAt.e0

/-! ### impl_NextNode: function 169 -/
def impl_NextNode.f (a0_0 : Int) (a0_1 : Int) (a1 : Int) (a2 : Int) : Option (Int) := (impl_isNode.f a0_0 a0_1 a1).bind fun t188 => (if t188 = true then (if a0_0 = 0 then (none) else (if a2 = 0 then ((impl_NodeAt.f a0_0 a0_1 (Int.tmod a1 a0_0) (wrap64 ((wrap64 (Int.tdiv a1 a0_0)) - 1))).bind fun t189 => (some t189)) else (if a2 = 1 then ((impl_NodeAt.f a0_0 a0_1 (wrap64 ((Int.tmod a1 a0_0) + 1)) (wrap64 (Int.tdiv a1 a0_0))).bind fun t190 => (some t190)) else (if a2 = 2 then ((impl_NodeAt.f a0_0 a0_1 (Int.tmod a1 a0_0) (wrap64 ((wrap64 (Int.tdiv a1 a0_0)) + 1))).bind fun t191 => (some t191)) else (if a2 = 3 then ((impl_NodeAt.f a0_0 a0_1 (wrap64 ((Int.tmod a1 a0_0) - 1)) (wrap64 (Int.tdiv a1 a0_0))).bind fun t192 => (some t192)) else (if a2 = 4 then (some a1) else (some (-1)))))))) else (some (-1)))
set_option maxHeartbeats 8000000 in
set_option maxRecDepth 100000 in
theorem impl_NextNode.calls (a0_0 : Int) (a0_1 : Int) (a1 : Int) (a2 : Int) (r : Int) (w : World) (h : impl_NextNode.f a0_0 a0_1 a1 a2 = some r) :
  Calls Try.prog 169 #[.agg #[.int .i64 a0_0, .int .i64 a0_1], .int .i64 a1, .int .i64 a2] w fun e w' => e = .returned (.int .i64 r) ∧ Below w.heap.size w w' := by
 have hu42 := Try.underlying42
 have HB := Aside0.mk (Below.refl w.heap.size w)
 have H : ((impl_isNode.f a0_0 a0_1 a1).bind fun t188 => (if t188 = true then (if a0_0 = 0 then (none) else (if a2 = 0 then ((impl_NodeAt.f a0_0 a0_1 (Int.tmod a1 a0_0) (wrap64 ((wrap64 (Int.tdiv a1 a0_0)) - 1))).bind fun t189 => (some t189)) else (if a2 = 1 then ((impl_NodeAt.f a0_0 a0_1 (wrap64 ((Int.tmod a1 a0_0) + 1)) (wrap64 (Int.tdiv a1 a0_0))).bind fun t190 => (some t190)) else (if a2 = 2 then ((impl_NodeAt.f a0_0 a0_1 (Int.tmod a1 a0_0) (wrap64 ((wrap64 (Int.tdiv a1 a0_0)) + 1))).bind fun t191 => (some t191)) else (if a2 = 3 then ((impl_NodeAt.f a0_0 a0_1 (wrap64 ((Int.tmod a1 a0_0) - 1)) (wrap64 (Int.tdiv a1 a0_0))).bind fun t192 => (some t192)) else (if a2 = 4 then (some a1) else (some (-1)))))))) else (some (-1)))) = some r := h
 clear h
 replace H := Option.bind_eq_some_iff.mp H
 obtain ⟨t188, A40, H⟩ := H
 try dsimp only at H
 have A4 := Aside0.mk A40
 clear A40
 by_cases c5 : t188 = true
 ·subst c5
  rw [if_pos rfl] at H
  by_cases c6 : a0_0 = 0
  ·rw [if_pos c6] at H
   exact absurd H (by simp)
  ·rw [if_neg c6] at H
   have c6b0 : (a0_0 == 0) = false := beq_eq_false_iff_ne.mpr c6
   have c6b1 : (a0_0 != 0) = true := bne_iff_ne.mpr c6
   by_cases c7 : a2 = 0
   ·rw [if_pos c7] at H
    have c7b0 : (a2 == 0) = true := beq_iff_eq.mpr c7
    have c7b1 : (a2 != 0) = false := bne_eq_false_iff_eq.mpr c7
    clear c7
    replace H := Option.bind_eq_some_iff.mp H
    obtain ⟨t189, A80, H⟩ := H
    try dsimp only at H
    have A8 := Aside0.mk A80
    clear A80
    obtain rfl := Option.some.inj H
    go_enter Try.func169, Try.ntmps169
    go_wp2_with (first | ((with_reducible refine gate_dst (N := 3) rfl ?_); refine box_event ?hg (N := 3) ?hd (cs := #[.int .i64 a0_0, .int .i64 a0_1]) (t := 42) ?hr ?_; (case hd => rfl); (case hg => rfl); (case hr => first | (go_simp; done) | (go_simp; rfl)); intro gb187 hg w9 hbox hb; have BK187 := Aside0.mk (hbox); have GW187 := Aside0.mk ((by rw [hg]; exact (bz_ HB.out) : w.heap.size ≤ gb187)); have GE187 := Aside0.mk ((by rw [hg]; exact (bz_ HB.out) : w.heap.size ≤ gb187)); replace HB := Aside0.mk (bs_ HB.out hb); clear hb hbox hg; obtain ⟨hcz10_0, hcz10_1, hfz10_0, hfz10_1⟩ := cz2_ BK187.out) | (go_at_call 131; (with_reducible refine (impl_isNode.calls a0_0 a0_1 a1 true _ A4.out).mono ?_); rintro e w11 ⟨rfl, hb⟩; replace BK187 := Aside0.mk (bk_ BK187.out hb); replace HB := Aside0.mk (bs_ HB.out hb); (try clear hb); obtain ⟨hcz12_0, hcz12_1, hfz12_0, hfz12_1⟩ := cz2_ BK187.out) | (go_at_call 178; (with_reducible refine (impl_NodeAt.calls a0_0 a0_1 (Int.tmod a1 a0_0) (wrap64 ((wrap64 (Int.tdiv a1 a0_0)) - 1)) t189 _ A8.out).mono ?_); rintro e w13 ⟨rfl, hb⟩; replace BK187 := Aside0.mk (bk_ BK187.out hb); replace HB := Aside0.mk (bs_ HB.out hb); (try clear hb)))
    repeat (go_quiet (first | ((with_reducible refine gate_dst (N := 3) rfl ?_); refine box_event ?hg (N := 3) ?hd (cs := #[.int .i64 a0_0, .int .i64 a0_1]) (t := 42) ?hr ?_; (case hd => rfl); (case hg => rfl); (case hr => first | (go_simp; done) | (go_simp; rfl)); intro gb187 hg w9 hbox hb; have BK187 := Aside0.mk (hbox); have GW187 := Aside0.mk ((by rw [hg]; exact (bz_ HB.out) : w.heap.size ≤ gb187)); have GE187 := Aside0.mk ((by rw [hg]; exact (bz_ HB.out) : w.heap.size ≤ gb187)); replace HB := Aside0.mk (bs_ HB.out hb); clear hb hbox hg; obtain ⟨hcz10_0, hcz10_1, hfz10_0, hfz10_1⟩ := cz2_ BK187.out) | (go_at_call 131; (with_reducible refine (impl_isNode.calls a0_0 a0_1 a1 true _ A4.out).mono ?_); rintro e w11 ⟨rfl, hb⟩; replace BK187 := Aside0.mk (bk_ BK187.out hb); replace HB := Aside0.mk (bs_ HB.out hb); (try clear hb); obtain ⟨hcz12_0, hcz12_1, hfz12_0, hfz12_1⟩ := cz2_ BK187.out) | (go_at_call 178; (with_reducible refine (impl_NodeAt.calls a0_0 a0_1 (Int.tmod a1 a0_0) (wrap64 ((wrap64 (Int.tdiv a1 a0_0)) - 1)) t189 _ A8.out).mono ?_); rintro e w13 ⟨rfl, hb⟩; replace BK187 := Aside0.mk (bk_ BK187.out hb); replace HB := Aside0.mk (bs_ HB.out hb); (try clear hb))); try go_wp2_with (first | ((with_reducible refine gate_dst (N := 3) rfl ?_); refine box_event ?hg (N := 3) ?hd (cs := #[.int .i64 a0_0, .int .i64 a0_1]) (t := 42) ?hr ?_; (case hd => rfl); (case hg => rfl); (case hr => first | (go_simp; done) | (go_simp; rfl)); intro gb187 hg w9 hbox hb; have BK187 := Aside0.mk (hbox); have GW187 := Aside0.mk ((by rw [hg]; exact (bz_ HB.out) : w.heap.size ≤ gb187)); have GE187 := Aside0.mk ((by rw [hg]; exact (bz_ HB.out) : w.heap.size ≤ gb187)); replace HB := Aside0.mk (bs_ HB.out hb); clear hb hbox hg; obtain ⟨hcz10_0, hcz10_1, hfz10_0, hfz10_1⟩ := cz2_ BK187.out) | (go_at_call 131; (with_reducible refine (impl_isNode.calls a0_0 a0_1 a1 true _ A4.out).mono ?_); rintro e w11 ⟨rfl, hb⟩; replace BK187 := Aside0.mk (bk_ BK187.out hb); replace HB := Aside0.mk (bs_ HB.out hb); (try clear hb); obtain ⟨hcz12_0, hcz12_1, hfz12_0, hfz12_1⟩ := cz2_ BK187.out) | (go_at_call 178; (with_reducible refine (impl_NodeAt.calls a0_0 a0_1 (Int.tmod a1 a0_0) (wrap64 ((wrap64 (Int.tdiv a1 a0_0)) - 1)) t189 _ A8.out).mono ?_); rintro e w13 ⟨rfl, hb⟩; replace BK187 := Aside0.mk (bk_ BK187.out hb); replace HB := Aside0.mk (bs_ HB.out hb); (try clear hb))))
    go_ret
    exact ⟨fin_, bb_ HB.out⟩
   ·rw [if_neg c7] at H
    have c7b0 : (a2 == 0) = false := beq_eq_false_iff_ne.mpr c7
    have c7b1 : (a2 != 0) = true := bne_iff_ne.mpr c7
    by_cases c14 : a2 = 1
    ·rw [if_pos c14] at H
     have c14b0 : (a2 == 1) = true := beq_iff_eq.mpr c14
     have c14b1 : (a2 != 1) = false := bne_eq_false_iff_eq.mpr c14
     clear c14
     replace H := Option.bind_eq_some_iff.mp H
     obtain ⟨t190, A150, H⟩ := H
     try dsimp only at H
     have A15 := Aside0.mk A150
     clear A150
     obtain rfl := Option.some.inj H
     go_enter Try.func169, Try.ntmps169
     go_wp2_with (first | ((with_reducible refine gate_dst (N := 3) rfl ?_); refine box_event ?hg (N := 3) ?hd (cs := #[.int .i64 a0_0, .int .i64 a0_1]) (t := 42) ?hr ?_; (case hd => rfl); (case hg => rfl); (case hr => first | (go_simp; done) | (go_simp; rfl)); intro gb187 hg w16 hbox hb; have BK187 := Aside0.mk (hbox); have GW187 := Aside0.mk ((by rw [hg]; exact (bz_ HB.out) : w.heap.size ≤ gb187)); have GE187 := Aside0.mk ((by rw [hg]; exact (bz_ HB.out) : w.heap.size ≤ gb187)); replace HB := Aside0.mk (bs_ HB.out hb); clear hb hbox hg; obtain ⟨hcz17_0, hcz17_1, hfz17_0, hfz17_1⟩ := cz2_ BK187.out) | (go_at_call 131; (with_reducible refine (impl_isNode.calls a0_0 a0_1 a1 true _ A4.out).mono ?_); rintro e w18 ⟨rfl, hb⟩; replace BK187 := Aside0.mk (bk_ BK187.out hb); replace HB := Aside0.mk (bs_ HB.out hb); (try clear hb); obtain ⟨hcz19_0, hcz19_1, hfz19_0, hfz19_1⟩ := cz2_ BK187.out) | (go_at_call 178; (with_reducible refine (impl_NodeAt.calls a0_0 a0_1 (wrap64 ((Int.tmod a1 a0_0) + 1)) (wrap64 (Int.tdiv a1 a0_0)) t190 _ A15.out).mono ?_); rintro e w20 ⟨rfl, hb⟩; replace BK187 := Aside0.mk (bk_ BK187.out hb); replace HB := Aside0.mk (bs_ HB.out hb); (try clear hb)))
     repeat (go_quiet (first | ((with_reducible refine gate_dst (N := 3) rfl ?_); refine box_event ?hg (N := 3) ?hd (cs := #[.int .i64 a0_0, .int .i64 a0_1]) (t := 42) ?hr ?_; (case hd => rfl); (case hg => rfl); (case hr => first | (go_simp; done) | (go_simp; rfl)); intro gb187 hg w16 hbox hb; have BK187 := Aside0.mk (hbox); have GW187 := Aside0.mk ((by rw [hg]; exact (bz_ HB.out) : w.heap.size ≤ gb187)); have GE187 := Aside0.mk ((by rw [hg]; exact (bz_ HB.out) : w.heap.size ≤ gb187)); replace HB := Aside0.mk (bs_ HB.out hb); clear hb hbox hg; obtain ⟨hcz17_0, hcz17_1, hfz17_0, hfz17_1⟩ := cz2_ BK187.out) | (go_at_call 131; (with_reducible refine (impl_isNode.calls a0_0 a0_1 a1 true _ A4.out).mono ?_); rintro e w18 ⟨rfl, hb⟩; replace BK187 := Aside0.mk (bk_ BK187.out hb); replace HB := Aside0.mk (bs_ HB.out hb); (try clear hb); obtain ⟨hcz19_0, hcz19_1, hfz19_0, hfz19_1⟩ := cz2_ BK187.out) | (go_at_call 178; (with_reducible refine (impl_NodeAt.calls a0_0 a0_1 (wrap64 ((Int.tmod a1 a0_0) + 1)) (wrap64 (Int.tdiv a1 a0_0)) t190 _ A15.out).mono ?_); rintro e w20 ⟨rfl, hb⟩; replace BK187 := Aside0.mk (bk_ BK187.out hb); replace HB := Aside0.mk (bs_ HB.out hb); (try clear hb))); try go_wp2_with (first | ((with_reducible refine gate_dst (N := 3) rfl ?_); refine box_event ?hg (N := 3) ?hd (cs := #[.int .i64 a0_0, .int .i64 a0_1]) (t := 42) ?hr ?_; (case hd => rfl); (case hg => rfl); (case hr => first | (go_simp; done) | (go_simp; rfl)); intro gb187 hg w16 hbox hb; have BK187 := Aside0.mk (hbox); have GW187 := Aside0.mk ((by rw [hg]; exact (bz_ HB.out) : w.heap.size ≤ gb187)); have GE187 := Aside0.mk ((by rw [hg]; exact (bz_ HB.out) : w.heap.size ≤ gb187)); replace HB := Aside0.mk (bs_ HB.out hb); clear hb hbox hg; obtain ⟨hcz17_0, hcz17_1, hfz17_0, hfz17_1⟩ := cz2_ BK187.out) | (go_at_call 131; (with_reducible refine (impl_isNode.calls a0_0 a0_1 a1 true _ A4.out).mono ?_); rintro e w18 ⟨rfl, hb⟩; replace BK187 := Aside0.mk (bk_ BK187.out hb); replace HB := Aside0.mk (bs_ HB.out hb); (try clear hb); obtain ⟨hcz19_0, hcz19_1, hfz19_0, hfz19_1⟩ := cz2_ BK187.out) | (go_at_call 178; (with_reducible refine (impl_NodeAt.calls a0_0 a0_1 (wrap64 ((Int.tmod a1 a0_0) + 1)) (wrap64 (Int.tdiv a1 a0_0)) t190 _ A15.out).mono ?_); rintro e w20 ⟨rfl, hb⟩; replace BK187 := Aside0.mk (bk_ BK187.out hb); replace HB := Aside0.mk (bs_ HB.out hb); (try clear hb))))
     go_ret
     exact ⟨fin_, bb_ HB.out⟩
    ·rw [if_neg c14] at H
     have c14b0 : (a2 == 1) = false := beq_eq_false_iff_ne.mpr c14
     have c14b1 : (a2 != 1) = true := bne_iff_ne.mpr c14
     by_cases c21 : a2 = 2
     ·rw [if_pos c21] at H
      have c21b0 : (a2 == 2) = true := beq_iff_eq.mpr c21
      have c21b1 : (a2 != 2) = false := bne_eq_false_iff_eq.mpr c21
      clear c21
      replace H := Option.bind_eq_some_iff.mp H
      obtain ⟨t191, A220, H⟩ := H
      try dsimp only at H
      have A22 := Aside0.mk A220
      clear A220
      obtain rfl := Option.some.inj H
      go_enter Try.func169, Try.ntmps169
      go_wp2_with (first | ((with_reducible refine gate_dst (N := 3) rfl ?_); refine box_event ?hg (N := 3) ?hd (cs := #[.int .i64 a0_0, .int .i64 a0_1]) (t := 42) ?hr ?_; (case hd => rfl); (case hg => rfl); (case hr => first | (go_simp; done) | (go_simp; rfl)); intro gb187 hg w23 hbox hb; have BK187 := Aside0.mk (hbox); have GW187 := Aside0.mk ((by rw [hg]; exact (bz_ HB.out) : w.heap.size ≤ gb187)); have GE187 := Aside0.mk ((by rw [hg]; exact (bz_ HB.out) : w.heap.size ≤ gb187)); replace HB := Aside0.mk (bs_ HB.out hb); clear hb hbox hg; obtain ⟨hcz24_0, hcz24_1, hfz24_0, hfz24_1⟩ := cz2_ BK187.out) | (go_at_call 131; (with_reducible refine (impl_isNode.calls a0_0 a0_1 a1 true _ A4.out).mono ?_); rintro e w25 ⟨rfl, hb⟩; replace BK187 := Aside0.mk (bk_ BK187.out hb); replace HB := Aside0.mk (bs_ HB.out hb); (try clear hb); obtain ⟨hcz26_0, hcz26_1, hfz26_0, hfz26_1⟩ := cz2_ BK187.out) | (go_at_call 178; (with_reducible refine (impl_NodeAt.calls a0_0 a0_1 (Int.tmod a1 a0_0) (wrap64 ((wrap64 (Int.tdiv a1 a0_0)) + 1)) t191 _ A22.out).mono ?_); rintro e w27 ⟨rfl, hb⟩; replace BK187 := Aside0.mk (bk_ BK187.out hb); replace HB := Aside0.mk (bs_ HB.out hb); (try clear hb)))
      repeat (go_quiet (first | ((with_reducible refine gate_dst (N := 3) rfl ?_); refine box_event ?hg (N := 3) ?hd (cs := #[.int .i64 a0_0, .int .i64 a0_1]) (t := 42) ?hr ?_; (case hd => rfl); (case hg => rfl); (case hr => first | (go_simp; done) | (go_simp; rfl)); intro gb187 hg w23 hbox hb; have BK187 := Aside0.mk (hbox); have GW187 := Aside0.mk ((by rw [hg]; exact (bz_ HB.out) : w.heap.size ≤ gb187)); have GE187 := Aside0.mk ((by rw [hg]; exact (bz_ HB.out) : w.heap.size ≤ gb187)); replace HB := Aside0.mk (bs_ HB.out hb); clear hb hbox hg; obtain ⟨hcz24_0, hcz24_1, hfz24_0, hfz24_1⟩ := cz2_ BK187.out) | (go_at_call 131; (with_reducible refine (impl_isNode.calls a0_0 a0_1 a1 true _ A4.out).mono ?_); rintro e w25 ⟨rfl, hb⟩; replace BK187 := Aside0.mk (bk_ BK187.out hb); replace HB := Aside0.mk (bs_ HB.out hb); (try clear hb); obtain ⟨hcz26_0, hcz26_1, hfz26_0, hfz26_1⟩ := cz2_ BK187.out) | (go_at_call 178; (with_reducible refine (impl_NodeAt.calls a0_0 a0_1 (Int.tmod a1 a0_0) (wrap64 ((wrap64 (Int.tdiv a1 a0_0)) + 1)) t191 _ A22.out).mono ?_); rintro e w27 ⟨rfl, hb⟩; replace BK187 := Aside0.mk (bk_ BK187.out hb); replace HB := Aside0.mk (bs_ HB.out hb); (try clear hb))); try go_wp2_with (first | ((with_reducible refine gate_dst (N := 3) rfl ?_); refine box_event ?hg (N := 3) ?hd (cs := #[.int .i64 a0_0, .int .i64 a0_1]) (t := 42) ?hr ?_; (case hd => rfl); (case hg => rfl); (case hr => first | (go_simp; done) | (go_simp; rfl)); intro gb187 hg w23 hbox hb; have BK187 := Aside0.mk (hbox); have GW187 := Aside0.mk ((by rw [hg]; exact (bz_ HB.out) : w.heap.size ≤ gb187)); have GE187 := Aside0.mk ((by rw [hg]; exact (bz_ HB.out) : w.heap.size ≤ gb187)); replace HB := Aside0.mk (bs_ HB.out hb); clear hb hbox hg; obtain ⟨hcz24_0, hcz24_1, hfz24_0, hfz24_1⟩ := cz2_ BK187.out) | (go_at_call 131; (with_reducible refine (impl_isNode.calls a0_0 a0_1 a1 true _ A4.out).mono ?_); rintro e w25 ⟨rfl, hb⟩; replace BK187 := Aside0.mk (bk_ BK187.out hb); replace HB := Aside0.mk (bs_ HB.out hb); (try clear hb); obtain ⟨hcz26_0, hcz26_1, hfz26_0, hfz26_1⟩ := cz2_ BK187.out) | (go_at_call 178; (with_reducible refine (impl_NodeAt.calls a0_0 a0_1 (Int.tmod a1 a0_0) (wrap64 ((wrap64 (Int.tdiv a1 a0_0)) + 1)) t191 _ A22.out).mono ?_); rintro e w27 ⟨rfl, hb⟩; replace BK187 := Aside0.mk (bk_ BK187.out hb); replace HB := Aside0.mk (bs_ HB.out hb); (try clear hb))))
      go_ret
      exact ⟨fin_, bb_ HB.out⟩
     ·rw [if_neg c21] at H
      have c21b0 : (a2 == 2) = false := beq_eq_false_iff_ne.mpr c21
      have c21b1 : (a2 != 2) = true := bne_iff_ne.mpr c21
      by_cases c28 : a2 = 3
      ·rw [if_pos c28] at H
       have c28b0 : (a2 == 3) = true := beq_iff_eq.mpr c28
       have c28b1 : (a2 != 3) = false := bne_eq_false_iff_eq.mpr c28
       clear c28
       replace H := Option.bind_eq_some_iff.mp H
       obtain ⟨t192, A290, H⟩ := H
       try dsimp only at H
       have A29 := Aside0.mk A290
       clear A290
       obtain rfl := Option.some.inj H
       go_enter Try.func169, Try.ntmps169
       go_wp2_with (first | ((with_reducible refine gate_dst (N := 3) rfl ?_); refine box_event ?hg (N := 3) ?hd (cs := #[.int .i64 a0_0, .int .i64 a0_1]) (t := 42) ?hr ?_; (case hd => rfl); (case hg => rfl); (case hr => first | (go_simp; done) | (go_simp; rfl)); intro gb187 hg w30 hbox hb; have BK187 := Aside0.mk (hbox); have GW187 := Aside0.mk ((by rw [hg]; exact (bz_ HB.out) : w.heap.size ≤ gb187)); have GE187 := Aside0.mk ((by rw [hg]; exact (bz_ HB.out) : w.heap.size ≤ gb187)); replace HB := Aside0.mk (bs_ HB.out hb); clear hb hbox hg; obtain ⟨hcz31_0, hcz31_1, hfz31_0, hfz31_1⟩ := cz2_ BK187.out) | (go_at_call 131; (with_reducible refine (impl_isNode.calls a0_0 a0_1 a1 true _ A4.out).mono ?_); rintro e w32 ⟨rfl, hb⟩; replace BK187 := Aside0.mk (bk_ BK187.out hb); replace HB := Aside0.mk (bs_ HB.out hb); (try clear hb); obtain ⟨hcz33_0, hcz33_1, hfz33_0, hfz33_1⟩ := cz2_ BK187.out) | (go_at_call 178; (with_reducible refine (impl_NodeAt.calls a0_0 a0_1 (wrap64 ((Int.tmod a1 a0_0) - 1)) (wrap64 (Int.tdiv a1 a0_0)) t192 _ A29.out).mono ?_); rintro e w34 ⟨rfl, hb⟩; replace BK187 := Aside0.mk (bk_ BK187.out hb); replace HB := Aside0.mk (bs_ HB.out hb); (try clear hb)))
       repeat (go_quiet (first | ((with_reducible refine gate_dst (N := 3) rfl ?_); refine box_event ?hg (N := 3) ?hd (cs := #[.int .i64 a0_0, .int .i64 a0_1]) (t := 42) ?hr ?_; (case hd => rfl); (case hg => rfl); (case hr => first | (go_simp; done) | (go_simp; rfl)); intro gb187 hg w30 hbox hb; have BK187 := Aside0.mk (hbox); have GW187 := Aside0.mk ((by rw [hg]; exact (bz_ HB.out) : w.heap.size ≤ gb187)); have GE187 := Aside0.mk ((by rw [hg]; exact (bz_ HB.out) : w.heap.size ≤ gb187)); replace HB := Aside0.mk (bs_ HB.out hb); clear hb hbox hg; obtain ⟨hcz31_0, hcz31_1, hfz31_0, hfz31_1⟩ := cz2_ BK187.out) | (go_at_call 131; (with_reducible refine (impl_isNode.calls a0_0 a0_1 a1 true _ A4.out).mono ?_); rintro e w32 ⟨rfl, hb⟩; replace BK187 := Aside0.mk (bk_ BK187.out hb); replace HB := Aside0.mk (bs_ HB.out hb); (try clear hb); obtain ⟨hcz33_0, hcz33_1, hfz33_0, hfz33_1⟩ := cz2_ BK187.out) | (go_at_call 178; (with_reducible refine (impl_NodeAt.calls a0_0 a0_1 (wrap64 ((Int.tmod a1 a0_0) - 1)) (wrap64 (Int.tdiv a1 a0_0)) t192 _ A29.out).mono ?_); rintro e w34 ⟨rfl, hb⟩; replace BK187 := Aside0.mk (bk_ BK187.out hb); replace HB := Aside0.mk (bs_ HB.out hb); (try clear hb))); try go_wp2_with (first | ((with_reducible refine gate_dst (N := 3) rfl ?_); refine box_event ?hg (N := 3) ?hd (cs := #[.int .i64 a0_0, .int .i64 a0_1]) (t := 42) ?hr ?_; (case hd => rfl); (case hg => rfl); (case hr => first | (go_simp; done) | (go_simp; rfl)); intro gb187 hg w30 hbox hb; have BK187 := Aside0.mk (hbox); have GW187 := Aside0.mk ((by rw [hg]; exact (bz_ HB.out) : w.heap.size ≤ gb187)); have GE187 := Aside0.mk ((by rw [hg]; exact (bz_ HB.out) : w.heap.size ≤ gb187)); replace HB := Aside0.mk (bs_ HB.out hb); clear hb hbox hg; obtain ⟨hcz31_0, hcz31_1, hfz31_0, hfz31_1⟩ := cz2_ BK187.out) | (go_at_call 131; (with_reducible refine (impl_isNode.calls a0_0 a0_1 a1 true _ A4.out).mono ?_); rintro e w32 ⟨rfl, hb⟩; replace BK187 := Aside0.mk (bk_ BK187.out hb); replace HB := Aside0.mk (bs_ HB.out hb); (try clear hb); obtain ⟨hcz33_0, hcz33_1, hfz33_0, hfz33_1⟩ := cz2_ BK187.out) | (go_at_call 178; (with_reducible refine (impl_NodeAt.calls a0_0 a0_1 (wrap64 ((Int.tmod a1 a0_0) - 1)) (wrap64 (Int.tdiv a1 a0_0)) t192 _ A29.out).mono ?_); rintro e w34 ⟨rfl, hb⟩; replace BK187 := Aside0.mk (bk_ BK187.out hb); replace HB := Aside0.mk (bs_ HB.out hb); (try clear hb))))
       go_ret
       exact ⟨fin_, bb_ HB.out⟩
      ·rw [if_neg c28] at H
       have c28b0 : (a2 == 3) = false := beq_eq_false_iff_ne.mpr c28
       have c28b1 : (a2 != 3) = true := bne_iff_ne.mpr c28
       by_cases c35 : a2 = 4
       ·rw [if_pos c35] at H
        have c35b0 : (a2 == 4) = true := beq_iff_eq.mpr c35
        have c35b1 : (a2 != 4) = false := bne_eq_false_iff_eq.mpr c35
        clear c35
        obtain rfl := Option.some.inj H
        go_enter Try.func169, Try.ntmps169
        go_wp2_with (first | ((with_reducible refine gate_dst (N := 3) rfl ?_); refine box_event ?hg (N := 3) ?hd (cs := #[.int .i64 a0_0, .int .i64 a0_1]) (t := 42) ?hr ?_; (case hd => rfl); (case hg => rfl); (case hr => first | (go_simp; done) | (go_simp; rfl)); intro gb187 hg w36 hbox hb; have BK187 := Aside0.mk (hbox); have GW187 := Aside0.mk ((by rw [hg]; exact (bz_ HB.out) : w.heap.size ≤ gb187)); have GE187 := Aside0.mk ((by rw [hg]; exact (bz_ HB.out) : w.heap.size ≤ gb187)); replace HB := Aside0.mk (bs_ HB.out hb); clear hb hbox hg; obtain ⟨hcz37_0, hcz37_1, hfz37_0, hfz37_1⟩ := cz2_ BK187.out) | (go_at_call 131; (with_reducible refine (impl_isNode.calls a0_0 a0_1 a1 true _ A4.out).mono ?_); rintro e w38 ⟨rfl, hb⟩; replace BK187 := Aside0.mk (bk_ BK187.out hb); replace HB := Aside0.mk (bs_ HB.out hb); (try clear hb); obtain ⟨hcz39_0, hcz39_1, hfz39_0, hfz39_1⟩ := cz2_ BK187.out))
        repeat (go_quiet (first | ((with_reducible refine gate_dst (N := 3) rfl ?_); refine box_event ?hg (N := 3) ?hd (cs := #[.int .i64 a0_0, .int .i64 a0_1]) (t := 42) ?hr ?_; (case hd => rfl); (case hg => rfl); (case hr => first | (go_simp; done) | (go_simp; rfl)); intro gb187 hg w36 hbox hb; have BK187 := Aside0.mk (hbox); have GW187 := Aside0.mk ((by rw [hg]; exact (bz_ HB.out) : w.heap.size ≤ gb187)); have GE187 := Aside0.mk ((by rw [hg]; exact (bz_ HB.out) : w.heap.size ≤ gb187)); replace HB := Aside0.mk (bs_ HB.out hb); clear hb hbox hg; obtain ⟨hcz37_0, hcz37_1, hfz37_0, hfz37_1⟩ := cz2_ BK187.out) | (go_at_call 131; (with_reducible refine (impl_isNode.calls a0_0 a0_1 a1 true _ A4.out).mono ?_); rintro e w38 ⟨rfl, hb⟩; replace BK187 := Aside0.mk (bk_ BK187.out hb); replace HB := Aside0.mk (bs_ HB.out hb); (try clear hb); obtain ⟨hcz39_0, hcz39_1, hfz39_0, hfz39_1⟩ := cz2_ BK187.out)); try go_wp2_with (first | ((with_reducible refine gate_dst (N := 3) rfl ?_); refine box_event ?hg (N := 3) ?hd (cs := #[.int .i64 a0_0, .int .i64 a0_1]) (t := 42) ?hr ?_; (case hd => rfl); (case hg => rfl); (case hr => first | (go_simp; done) | (go_simp; rfl)); intro gb187 hg w36 hbox hb; have BK187 := Aside0.mk (hbox); have GW187 := Aside0.mk ((by rw [hg]; exact (bz_ HB.out) : w.heap.size ≤ gb187)); have GE187 := Aside0.mk ((by rw [hg]; exact (bz_ HB.out) : w.heap.size ≤ gb187)); replace HB := Aside0.mk (bs_ HB.out hb); clear hb hbox hg; obtain ⟨hcz37_0, hcz37_1, hfz37_0, hfz37_1⟩ := cz2_ BK187.out) | (go_at_call 131; (with_reducible refine (impl_isNode.calls a0_0 a0_1 a1 true _ A4.out).mono ?_); rintro e w38 ⟨rfl, hb⟩; replace BK187 := Aside0.mk (bk_ BK187.out hb); replace HB := Aside0.mk (bs_ HB.out hb); (try clear hb); obtain ⟨hcz39_0, hcz39_1, hfz39_0, hfz39_1⟩ := cz2_ BK187.out)))
        go_ret
        exact ⟨fin_, bb_ HB.out⟩
       ·rw [if_neg c35] at H
        have c35b0 : (a2 == 4) = false := beq_eq_false_iff_ne.mpr c35
        have c35b1 : (a2 != 4) = true := bne_iff_ne.mpr c35
        obtain rfl := Option.some.inj H
        go_enter Try.func169, Try.ntmps169
        go_wp2_with (first | ((with_reducible refine gate_dst (N := 3) rfl ?_); refine box_event ?hg (N := 3) ?hd (cs := #[.int .i64 a0_0, .int .i64 a0_1]) (t := 42) ?hr ?_; (case hd => rfl); (case hg => rfl); (case hr => first | (go_simp; done) | (go_simp; rfl)); intro gb187 hg w40 hbox hb; have BK187 := Aside0.mk (hbox); have GW187 := Aside0.mk ((by rw [hg]; exact (bz_ HB.out) : w.heap.size ≤ gb187)); have GE187 := Aside0.mk ((by rw [hg]; exact (bz_ HB.out) : w.heap.size ≤ gb187)); replace HB := Aside0.mk (bs_ HB.out hb); clear hb hbox hg; obtain ⟨hcz41_0, hcz41_1, hfz41_0, hfz41_1⟩ := cz2_ BK187.out) | (go_at_call 131; (with_reducible refine (impl_isNode.calls a0_0 a0_1 a1 true _ A4.out).mono ?_); rintro e w42 ⟨rfl, hb⟩; replace BK187 := Aside0.mk (bk_ BK187.out hb); replace HB := Aside0.mk (bs_ HB.out hb); (try clear hb); obtain ⟨hcz43_0, hcz43_1, hfz43_0, hfz43_1⟩ := cz2_ BK187.out))
        repeat (go_quiet (first | ((with_reducible refine gate_dst (N := 3) rfl ?_); refine box_event ?hg (N := 3) ?hd (cs := #[.int .i64 a0_0, .int .i64 a0_1]) (t := 42) ?hr ?_; (case hd => rfl); (case hg => rfl); (case hr => first | (go_simp; done) | (go_simp; rfl)); intro gb187 hg w40 hbox hb; have BK187 := Aside0.mk (hbox); have GW187 := Aside0.mk ((by rw [hg]; exact (bz_ HB.out) : w.heap.size ≤ gb187)); have GE187 := Aside0.mk ((by rw [hg]; exact (bz_ HB.out) : w.heap.size ≤ gb187)); replace HB := Aside0.mk (bs_ HB.out hb); clear hb hbox hg; obtain ⟨hcz41_0, hcz41_1, hfz41_0, hfz41_1⟩ := cz2_ BK187.out) | (go_at_call 131; (with_reducible refine (impl_isNode.calls a0_0 a0_1 a1 true _ A4.out).mono ?_); rintro e w42 ⟨rfl, hb⟩; replace BK187 := Aside0.mk (bk_ BK187.out hb); replace HB := Aside0.mk (bs_ HB.out hb); (try clear hb); obtain ⟨hcz43_0, hcz43_1, hfz43_0, hfz43_1⟩ := cz2_ BK187.out)); try go_wp2_with (first | ((with_reducible refine gate_dst (N := 3) rfl ?_); refine box_event ?hg (N := 3) ?hd (cs := #[.int .i64 a0_0, .int .i64 a0_1]) (t := 42) ?hr ?_; (case hd => rfl); (case hg => rfl); (case hr => first | (go_simp; done) | (go_simp; rfl)); intro gb187 hg w40 hbox hb; have BK187 := Aside0.mk (hbox); have GW187 := Aside0.mk ((by rw [hg]; exact (bz_ HB.out) : w.heap.size ≤ gb187)); have GE187 := Aside0.mk ((by rw [hg]; exact (bz_ HB.out) : w.heap.size ≤ gb187)); replace HB := Aside0.mk (bs_ HB.out hb); clear hb hbox hg; obtain ⟨hcz41_0, hcz41_1, hfz41_0, hfz41_1⟩ := cz2_ BK187.out) | (go_at_call 131; (with_reducible refine (impl_isNode.calls a0_0 a0_1 a1 true _ A4.out).mono ?_); rintro e w42 ⟨rfl, hb⟩; replace BK187 := Aside0.mk (bk_ BK187.out hb); replace HB := Aside0.mk (bs_ HB.out hb); (try clear hb); obtain ⟨hcz43_0, hcz43_1, hfz43_0, hfz43_1⟩ := cz2_ BK187.out)))
        go_ret
        exact ⟨fin_, bb_ HB.out⟩
 ·replace c5 := Bool.eq_false_iff.mpr c5
  subst c5
  rw [if_neg (show ¬ (false = true) by decide)] at H
  obtain rfl := Option.some.inj H
  go_enter Try.func169, Try.ntmps169
  go_wp2_with (first | ((with_reducible refine gate_dst (N := 3) rfl ?_); refine box_event ?hg (N := 3) ?hd (cs := #[.int .i64 a0_0, .int .i64 a0_1]) (t := 42) ?hr ?_; (case hd => rfl); (case hg => rfl); (case hr => first | (go_simp; done) | (go_simp; rfl)); intro gb187 hg w44 hbox hb; have BK187 := Aside0.mk (hbox); have GW187 := Aside0.mk ((by rw [hg]; exact (bz_ HB.out) : w.heap.size ≤ gb187)); have GE187 := Aside0.mk ((by rw [hg]; exact (bz_ HB.out) : w.heap.size ≤ gb187)); replace HB := Aside0.mk (bs_ HB.out hb); clear hb hbox hg; obtain ⟨hcz45_0, hcz45_1, hfz45_0, hfz45_1⟩ := cz2_ BK187.out) | (go_at_call 131; (with_reducible refine (impl_isNode.calls a0_0 a0_1 a1 false _ A4.out).mono ?_); rintro e w46 ⟨rfl, hb⟩; replace BK187 := Aside0.mk (bk_ BK187.out hb); replace HB := Aside0.mk (bs_ HB.out hb); (try clear hb)))
  repeat (go_quiet (first | ((with_reducible refine gate_dst (N := 3) rfl ?_); refine box_event ?hg (N := 3) ?hd (cs := #[.int .i64 a0_0, .int .i64 a0_1]) (t := 42) ?hr ?_; (case hd => rfl); (case hg => rfl); (case hr => first | (go_simp; done) | (go_simp; rfl)); intro gb187 hg w44 hbox hb; have BK187 := Aside0.mk (hbox); have GW187 := Aside0.mk ((by rw [hg]; exact (bz_ HB.out) : w.heap.size ≤ gb187)); have GE187 := Aside0.mk ((by rw [hg]; exact (bz_ HB.out) : w.heap.size ≤ gb187)); replace HB := Aside0.mk (bs_ HB.out hb); clear hb hbox hg; obtain ⟨hcz45_0, hcz45_1, hfz45_0, hfz45_1⟩ := cz2_ BK187.out) | (go_at_call 131; (with_reducible refine (impl_isNode.calls a0_0 a0_1 a1 false _ A4.out).mono ?_); rintro e w46 ⟨rfl, hb⟩; replace BK187 := Aside0.mk (bk_ BK187.out hb); replace HB := Aside0.mk (bs_ HB.out hb); (try clear hb))); try go_wp2_with (first | ((with_reducible refine gate_dst (N := 3) rfl ?_); refine box_event ?hg (N := 3) ?hd (cs := #[.int .i64 a0_0, .int .i64 a0_1]) (t := 42) ?hr ?_; (case hd => rfl); (case hg => rfl); (case hr => first | (go_simp; done) | (go_simp; rfl)); intro gb187 hg w44 hbox hb; have BK187 := Aside0.mk (hbox); have GW187 := Aside0.mk ((by rw [hg]; exact (bz_ HB.out) : w.heap.size ≤ gb187)); have GE187 := Aside0.mk ((by rw [hg]; exact (bz_ HB.out) : w.heap.size ≤ gb187)); replace HB := Aside0.mk (bs_ HB.out hb); clear hb hbox hg; obtain ⟨hcz45_0, hcz45_1, hfz45_0, hfz45_1⟩ := cz2_ BK187.out) | (go_at_call 131; (with_reducible refine (impl_isNode.calls a0_0 a0_1 a1 false _ A4.out).mono ?_); rintro e w46 ⟨rfl, hb⟩; replace BK187 := Aside0.mk (bk_ BK187.out hb); replace HB := Aside0.mk (bs_ HB.out hb); (try clear hb))))
  go_ret
  exact ⟨fin_, bb_ HB.out⟩

/-! ### impl_leads: function 141 -/
def impl_leads.f (a0_0 : Int) (a0_1 : Int) (a1 : Int) : Option (Bool) := (impl_NodeCount.f a0_0 a0_1).bind fun t194 => ((impl_inside.f a1 0 (wrap64 ((wrap64 (4 * t194)) - 1))).bind fun t195 => (if t195 = true then ((impl_NextNode.f a0_0 a0_1 (wrap64 (Int.tdiv a1 4)) (Int.tmod a1 4)).bind fun t196 => (some (decide (t196 ≥ 0)))) else (some false)))
theorem impl_leads.e0 {P : Prop} (h : P := by
 go_enter Try.func141, Try.ntmps141
 go_wp2_with (first | ((with_reducible refine gate_dst (N := 2) rfl ?_); refine box_event ?hg (N := 2) ?hd (cs := #[.int .i64 a0_0, .int .i64 a0_1]) (t := 42) ?hr ?_; (case hd => rfl); (case hg => rfl); (case hr => first | (go_simp; done) | (go_simp; rfl)); intro gb193 hg w_0 hbox hb; have BK193 := Aside0.mk (hbox); have GW193 := Aside0.mk ((by rw [hg]; exact (bz_ HB.out) : w.heap.size ≤ gb193)); have GE193 := Aside0.mk ((by rw [hg]; exact (bz_ HB.out) : w.heap.size ≤ gb193)); replace HB := Aside0.mk (bs_ HB.out hb); clear hb hbox hg; obtain ⟨hcz_0, hcz_1, hfz_0, hfz_1⟩ := cz2_ BK193.out) | ((with_reducible refine gate_callee (f := 95) rfl ?_); refine gm_ (some 7) Try.func95 #[.agg #[.int .i64 a0_0, .int .i64 a0_1]] rfl ?_; (with_reducible refine (impl_NodeCount.calls a0_0 a0_1 t194 _ A3.out).mono ?_); rintro e w_0 ⟨rfl, hb⟩; refine ⟨_, rfl, ?_⟩; replace BK193 := Aside0.mk (bk_ BK193.out hb); replace HB := Aside0.mk (bs_ HB.out hb); (try clear hb)) | ((with_reducible refine gate_callee (f := 94) rfl ?_); refine gm_ (some 10) Try.func94 #[.int .i64 a1, .int .i64 0, .int .i64 (wrap64 ((wrap64 (4 * t194)) - 1))] rfl ?_; (with_reducible refine (impl_inside.calls a1 0 (wrap64 ((wrap64 (4 * t194)) - 1)) _ _ A4.out).mono ?_); rintro e w' ⟨rfl, ⟨nd, rfl⟩⟩; refine ⟨_, rfl, ?_⟩; obtain ⟨hcz_0, hcz_1, hfz_0, hfz_1⟩ := cz2_ BK193.out) | (go_at_call 169; (with_reducible refine (impl_NextNode.calls a0_0 a0_1 (wrap64 (Int.tdiv a1 4)) (Int.tmod a1 4) t196 _ A6.out).mono ?_); rintro e w_0 ⟨rfl, hb⟩; replace BK193 := Aside0.mk (bk_ BK193.out hb); replace HB := Aside0.mk (bs_ HB.out hb); (try clear hb)))
 go_ret
 exact ⟨fin_, bb_ HB.out⟩) : P := h
set_option maxHeartbeats 8000000 in
set_option maxRecDepth 100000 in
theorem impl_leads.calls (a0_0 : Int) (a0_1 : Int) (a1 : Int) (r : Bool) (w : World) (h : impl_leads.f a0_0 a0_1 a1 = some r) :
  Calls Try.prog 141 #[.agg #[.int .i64 a0_0, .int .i64 a0_1], .int .i64 a1] w fun e w' => e = .returned (.bool r) ∧ Below w.heap.size w w' := by
 have hu42 := Try.underlying42
 have HB := Aside0.mk (Below.refl w.heap.size w)
 have H : ((impl_NodeCount.f a0_0 a0_1).bind fun t194 => ((impl_inside.f a1 0 (wrap64 ((wrap64 (4 * t194)) - 1))).bind fun t195 => (if t195 = true then ((impl_NextNode.f a0_0 a0_1 (wrap64 (Int.tdiv a1 4)) (Int.tmod a1 4)).bind fun t196 => (some (decide (t196 ≥ 0)))) else (some false)))) = some r := h
 clear h
 replace H := Option.bind_eq_some_iff.mp H
 obtain ⟨t194, A30, H⟩ := H
 try dsimp only at H
 have A3 := Aside0.mk A30
 clear A30
 replace H := Option.bind_eq_some_iff.mp H
 obtain ⟨t195, A40, H⟩ := H
 try dsimp only at H
 have A4 := Aside0.mk A40
 clear A40
 by_cases c5 : t195 = true
 ·subst c5
  rw [if_pos rfl] at H
  replace H := Option.bind_eq_some_iff.mp H
  obtain ⟨t196, A60, H⟩ := H
  try dsimp only at H
  have A6 := Aside0.mk A60
  clear A60
  obtain rfl := Option.some.inj H
  exact impl_leads.e0
 ·replace c5 := Bool.eq_false_iff.mpr c5
  subst c5
  rw [if_neg (show ¬ (false = true) by decide)] at H
  obtain rfl := Option.some.inj H
  exact impl_leads.e0

end Go.Proofs.Ytimdefbpoddoaaa.PFnSplitSafe
-- thin
