/- Each function that the law comes to, as a plain function, with the proof that the call in the model gives what that function says (written by a program of this session out of the translation). No condition. -/
import Derived.Test.YtjialkmfmpkjgaaPFnRanksXYx0
import Derived.Test.YtjialkmfmpkjgaaPFnRanksXYx1
import Derived.Test.YtjialkmfmpkjgaaPFnRanksXYx2
namespace Go.Proofs.Ytjialkmfmpkjgaa.PFnRanksXY
open Go.RowKit Go.Proofs.YtjialkmfmpkjgaaW.PrintWords Go.Proofs.YtjialkmfmpkjgaaW.PrintLast Go.Proofs.YtjialkmfmpkjgaaW.PrintMore
attribute [local go_sem] max2_int min2_int max_two min_two max_three min_three max_four min_four   -- for this text's walks alone
set_option linter.unusedVariables false
set_option linter.unusedSimpArgs false

/-! ### impl_StandardTable: function 33 -/
mutual
def impl_StandardTable.j0 : Nat → Int → Bool → Int → Int → Option (List Int × Bool)
 | 0, _, _, _, _ => none
 | k + 1, x1, x16, x174000, x174001 => if x16 = true then (some (([] : List Int), false)) else ((impl_NodeCount.f x174000 x174001).bind fun t178 => (impl_StandardTable.l0 k x1 t178 0 x174000 x174001 ([] : List Int)))
def impl_StandardTable.l0 : Nat → Int → Int → Int → Int → Int → List Int → Option (List Int × Bool)
 | 0, _, _, _, _, _, _ => none
 | k + 1, x1, x20, x21, x174000, x174001, x178000 => if x21 < x20 then ((impl_NodeCount.f x174000 x174001).bind fun t179 => (impl_StandardTable.l1 k x1 x21 x20 x21 t179 0 x174000 x174001 x178000)) else (some (x178000, true))
def impl_StandardTable.l1 : Nat → Int → Int → Int → Int → Int → Int → Int → Int → List Int → Option (List Int × Bool)
 | 0, _, _, _, _, _, _, _, _, _ => none
 | k + 1, x1, x7, x20, x21, x25, x26, x174000, x174001, x178000 => if x26 < x25 then ((impl_StandardPort.f k x174000 x174001 x1 x7 x26).bind fun t180 => (if x178000.length < 17592186044416 then (impl_StandardTable.l1 k x1 x7 x20 x21 x25 (wrap64 (x26 + 1)) x174000 x174001 (x178000 ++ [t180])) else (none))) else (impl_StandardTable.l0 k x1 x20 (wrap64 (x21 + 1)) x174000 x174001 x178000)
end
def impl_StandardTable.f (k : Nat) (a0_0 : Int) (a0_1 : Int) (a1 : Int) : Option (List Int × Bool) := (impl_GridOk.f a0_0 a0_1).bind fun t175 => (if t175 = true then ((impl_inside.f a1 1 4).bind fun t176 => (impl_StandardTable.j0 k a1 (!t176) a0_0 a0_1)) else (impl_StandardTable.j0 k a1 true a0_0 a0_1))
theorem impl_StandardTable.mono_l : ∀ k, (∀ y0 y1 y2 y3, LeO (impl_StandardTable.j0 k y0 y1 y2 y3) (impl_StandardTable.j0 (k + 1) y0 y1 y2 y3)) ∧ (∀ y0 y1 y2 y3 y4 y5, LeO (impl_StandardTable.l0 k y0 y1 y2 y3 y4 y5) (impl_StandardTable.l0 (k + 1) y0 y1 y2 y3 y4 y5)) ∧ (∀ y0 y1 y2 y3 y4 y5 y6 y7 y8, LeO (impl_StandardTable.l1 k y0 y1 y2 y3 y4 y5 y6 y7 y8) (impl_StandardTable.l1 (k + 1) y0 y1 y2 y3 y4 y5 y6 y7 y8))
 | 0 => ⟨fun _ _ _ _ r h => by simp [impl_StandardTable.j0] at h, fun _ _ _ _ _ _ r h => by simp [impl_StandardTable.l0] at h, fun _ _ _ _ _ _ _ _ _ r h => by simp [impl_StandardTable.l1] at h⟩
 | k + 1 => by
  obtain ⟨ih0, ih1, ih2⟩ := impl_StandardTable.mono_l k
  refine ⟨?_, ?_, ?_⟩
  ·intro y0 y1 y2 y3
   unfold impl_StandardTable.j0
   repeat' first
   | (with_reducible exact ih0 _ _ _ _)
   | (with_reducible exact ih1 _ _ _ _ _ _)
   | (with_reducible exact ih2 _ _ _ _ _ _ _ _ _)
   | (with_reducible exact impl_StandardPort.mono _ _ _ _ _ _)
   | (with_reducible exact LeO.refl _)
   | (with_reducible exact LeO.none _)
   | (with_reducible refine LeO.ite ?_ ?_)
   | (with_reducible refine LeO.bind ?_ (fun _ => ?_))
   | exact ih0 _ _ _ _
   | exact ih1 _ _ _ _ _ _
   | exact ih2 _ _ _ _ _ _ _ _ _
   | exact impl_StandardPort.mono _ _ _ _ _ _
   | exact LeO.none _
   | refine LeO.ite ?_ ?_
   | refine LeO.bind ?_ (fun _ => ?_)
  ·intro y0 y1 y2 y3 y4 y5
   unfold impl_StandardTable.l0
   repeat' first
   | (with_reducible exact ih0 _ _ _ _)
   | (with_reducible exact ih1 _ _ _ _ _ _)
   | (with_reducible exact ih2 _ _ _ _ _ _ _ _ _)
   | (with_reducible exact impl_StandardPort.mono _ _ _ _ _ _)
   | (with_reducible exact LeO.refl _)
   | (with_reducible exact LeO.none _)
   | (with_reducible refine LeO.ite ?_ ?_)
   | (with_reducible refine LeO.bind ?_ (fun _ => ?_))
   | exact ih0 _ _ _ _
   | exact ih1 _ _ _ _ _ _
   | exact ih2 _ _ _ _ _ _ _ _ _
   | exact impl_StandardPort.mono _ _ _ _ _ _
   | exact LeO.none _
   | refine LeO.ite ?_ ?_
   | refine LeO.bind ?_ (fun _ => ?_)
  ·intro y0 y1 y2 y3 y4 y5 y6 y7 y8
   unfold impl_StandardTable.l1
   repeat' first
   | (with_reducible exact ih0 _ _ _ _)
   | (with_reducible exact ih1 _ _ _ _ _ _)
   | (with_reducible exact ih2 _ _ _ _ _ _ _ _ _)
   | (with_reducible exact impl_StandardPort.mono _ _ _ _ _ _)
   | (with_reducible exact LeO.refl _)
   | (with_reducible exact LeO.none _)
   | (with_reducible refine LeO.ite ?_ ?_)
   | (with_reducible refine LeO.bind ?_ (fun _ => ?_))
   | exact ih0 _ _ _ _
   | exact ih1 _ _ _ _ _ _
   | exact ih2 _ _ _ _ _ _ _ _ _
   | exact impl_StandardPort.mono _ _ _ _ _ _
   | exact LeO.none _
   | refine LeO.ite ?_ ?_
   | refine LeO.bind ?_ (fun _ => ?_)
theorem impl_StandardTable.mono : ∀ a0 a1 a2 k, LeO (impl_StandardTable.f k a0 a1 a2) (impl_StandardTable.f (k + 1) a0 a1 a2) := by
 intro a0 a1 a2 k
 obtain ⟨ih0, ih1, ih2⟩ := impl_StandardTable.mono_l k
 unfold impl_StandardTable.f
 repeat' first
   | (with_reducible exact ih0 _ _ _ _)
   | (with_reducible exact ih1 _ _ _ _ _ _)
   | (with_reducible exact ih2 _ _ _ _ _ _ _ _ _)
   | (with_reducible exact impl_StandardPort.mono _ _ _ _ _ _)
   | (with_reducible exact LeO.refl _)
   | (with_reducible exact LeO.none _)
   | (with_reducible refine LeO.ite ?_ ?_)
   | (with_reducible refine LeO.bind ?_ (fun _ => ?_))
   | exact ih0 _ _ _ _
   | exact ih1 _ _ _ _ _ _
   | exact ih2 _ _ _ _ _ _ _ _ _
   | exact impl_StandardPort.mono _ _ _ _ _ _
   | exact LeO.none _
   | refine LeO.ite ?_ ?_
   | refine LeO.bind ?_ (fun _ => ?_)
def impl_StandardTable.T10 : Bool × List (List Nat × List Nat) := (true, [([], []), ([0], [0]), ([], []), ([], []), ([], []), ([], []), ([2, 3, 4, 5], [2, 3, 4, 5]), ([6], [6]), ([1, 7, 6], [1, 7]), ([0, 1, 2, 3, 4, 5, 6, 7, 8], []), ([9, 8, 8, 0, 1, 2, 3, 4, 5, 6, 7, 8], [8, 9])])
def impl_StandardTable.B10 : List Nat := [0, 1, 0, 0, 0, 0, 60, 124, 255, 511, 1023]
theorem impl_StandardTable.tab10 : rtab .any (opsOf Try.f33 10) = impl_StandardTable.T10 := by kernel_rfl
theorem impl_StandardTable.bits10 : waitsOk impl_StandardTable.T10.2 impl_StandardTable.B10 = true := by kernel_rfl
set_option maxHeartbeats 8000000 in
set_option maxRecDepth 100000 in
theorem impl_StandardTable.calls (k : Nat) (a0_0 : Int) (a0_1 : Int) (a1 : Int) (r1 : List Int) (r2 : Bool) (w : World) (h : impl_StandardTable.f k a0_0 a0_1 a1 = some (r1, r2)) :
  Calls Try.prog 33 #[.agg #[.int .i64 a0_0, .int .i64 a0_1], .int .i64 a1] w fun e w' => ∃ v0_ : Value, e = .returned (.tuple #[.agg #[v0_], .bool r2]) ∧ Kd.R (Kd.int .i64) 3 w' w.heap.size (fun _ => True) v0_ r1 ∧ Below w.heap.size w w' := by
 have hu38 := Try.underlying38
 have hu61 := Try.underlying61
 have HB := Aside0.mk (Below.refl w.heap.size w)
 have H : ((impl_GridOk.f a0_0 a0_1).bind fun t175 => (if t175 = true then ((impl_inside.f a1 1 4).bind fun t176 => (impl_StandardTable.j0 k a1 (!t176) a0_0 a0_1)) else (impl_StandardTable.j0 k a1 true a0_0 a0_1))) = some (r1, r2) := h
 clear h
 have HC3 := Aside0.mk H
 clear H
 go_enter Try.func33, Try.ntmps33
 go_upto_region 1 with (first | ((with_reducible refine gate_dst (N := 2) rfl ?_); refine box_event ?hg (N := 2) ?hd (cs := #[.int .i64 a0_0, .int .i64 a0_1]) (t := 38) ?hr ?_; (case hd => rfl); (case hg => rfl); (case hr => first | (go_simp; done) | (go_simp; rfl)); intro gb173 hg w4 hbox hb; have BK173 := Aside0.mk (hbox); have GW173 := Aside0.mk ((by rw [hg]; exact (bz_ HB.out) : w.heap.size ≤ gb173)); have GE173 := Aside0.mk ((by rw [hg]; exact (bz_ HB.out) : w.heap.size ≤ gb173)); replace HB := Aside0.mk (bs_ HB.out hb); clear hb hbox hg) | ((with_reducible refine gate_dst (N := 4) rfl ?_); refine box_event ?hg (N := 4) ?hd (cs := #[.slice none 0 0]) (t := 61) ?hr ?_; (case hd => rfl); (case hg => rfl); (case hr => first | (go_simp; done) | (go_simp; rfl)); intro gb174 hg w5 hbox hb; have BK174 := Aside0.mk (hbox); have GW174 := Aside0.mk ((by rw [hg]; exact (bz_ HB.out) : w.heap.size ≤ gb174)); have GE174 := Aside0.mk ((by rw [hg]; exact (bz_ HB.out) : w.heap.size ≤ gb174)); replace HB := Aside0.mk (bs_ HB.out hb); have NB173_174 := Aside0.mk ((by rw [hg]; exact Nat.ne_of_lt (bl_ BK173.out) : gb173 ≠ gb174)); have NB174_173 := Aside0.mk ((by rw [hg]; exact Nat.ne_of_gt (bl_ BK173.out) : gb174 ≠ gb173)); replace BK173 := Aside0.mk (bk_ BK173.out hb); clear hb hbox hg))
 (try simp only [Act.put, List.setIfInBounds_toArray, List.set_cons_zero, List.set_cons_succ])
 go_cut [16] (fun v16 wc => ∃ (kq : Nat) (x16_2 : Bool), v16 = .bool x16_2 ∧ Aside0 (impl_StandardTable.j0 kq a1 x16_2 a0_0 a0_1 = some (r1, r2)) ∧ Aside0 (kq ≤ k) ∧ Aside0 (wc.heap[gb173]? = some (.cells #[.int .i64 a0_0, .int .i64 a0_1] 38 (0, 0))) ∧ Aside0 (wc.heap[gb174]? = some (.cells #[(.slice none 0 0)] 61 (0, 0))) ∧ Aside0 (Below w.heap.size w wc))
 case first =>
  have H := HC3.out
  clear HC3
  replace H := Option.bind_eq_some_iff.mp H
  obtain ⟨t175, A60, H⟩ := H
  try dsimp only at H
  have A6 := Aside0.mk A60
  clear A60
  by_cases c7 : t175 = true
  ·subst c7
   rw [if_pos rfl] at H
   replace H := Option.bind_eq_some_iff.mp H
   obtain ⟨t176, A80, H⟩ := H
   try dsimp only at H
   have A8 := Aside0.mk A80
   clear A80
   have H' := Aside0.mk H
   clear H
   have hnb9 := NB173_174.out
   have hnc9 := NB174_173.out
   obtain ⟨hcz10_0, hcz10_1, hfz10_0, hfz10_1⟩ := cz2_ BK173.out
   go_wp2_with (first | ((with_reducible refine gate_callee (f := 55) rfl ?_); refine gm_ (some 10) Try.func55 #[.agg #[.int .i64 a0_0, .int .i64 a0_1]] rfl ?_; (with_reducible refine (impl_GridOk.calls a0_0 a0_1 true _ A6.out).mono ?_); rintro e w11 ⟨rfl, hb⟩; refine ⟨_, rfl, ?_⟩; replace BK173 := Aside0.mk (bk_ BK173.out hb); replace BK174 := Aside0.mk (bk_ BK174.out hb); replace HB := Aside0.mk (bs_ HB.out hb); (try clear hb)) | (go_at_call 43; (with_reducible refine (impl_inside.calls a1 1 4 t176 _ A8.out).mono ?_); rintro e w' ⟨rfl, ⟨nd, rfl⟩⟩))
   go_meet
   case rel => exact ⟨_, (!t176), ef_, H', ⟨kq_⟩, ⟨bq_ BK173.out⟩, ⟨bq_ BK174.out⟩, ⟨bb_ HB.out⟩⟩
  ·replace c7 := Bool.eq_false_iff.mpr c7
   subst c7
   rw [if_neg (show ¬ (false = true) by decide)] at H
   have H' := Aside0.mk H
   clear H
   have hnb12 := NB173_174.out
   have hnc12 := NB174_173.out
   obtain ⟨hcz13_0, hcz13_1, hfz13_0, hfz13_1⟩ := cz2_ BK173.out
   go_wp2_with (first | ((with_reducible refine gate_callee (f := 55) rfl ?_); refine gm_ (some 10) Try.func55 #[.agg #[.int .i64 a0_0, .int .i64 a0_1]] rfl ?_; (with_reducible refine (impl_GridOk.calls a0_0 a0_1 false _ A6.out).mono ?_); rintro e w14 ⟨rfl, hb⟩; refine ⟨_, rfl, ?_⟩; replace BK173 := Aside0.mk (bk_ BK173.out hb); replace BK174 := Aside0.mk (bk_ BK174.out hb); replace HB := Aside0.mk (bs_ HB.out hb); (try clear hb)))
   go_meet
   case rel => exact ⟨_, (true), ef_, H', ⟨kq_⟩, ⟨bq_ BK173.out⟩, ⟨bq_ BK174.out⟩, ⟨bb_ HB.out⟩⟩
 case rest =>
  clear HC3
  obtain ⟨kq, x16_2, rfl, HA, HJ2, BK173, BK174, HB⟩ := hcut
  cases kq with
  | zero => exact absurd HA.out (by simp [impl_StandardTable.j0])
  | succ kj2 =>
   have H := HA.out
   clear HA
   simp only [impl_StandardTable.j0] at H
   by_cases c15 : x16_2 = true
   ·subst c15
    rw [if_pos rfl] at H
    simp only [Option.some.injEq, Prod.mk.injEq] at H
    obtain ⟨rfl, rfl⟩ := H
    have hnb16 := NB174_173.out
    have hnc16 := NB173_174.out
    obtain ⟨hcz17_0, hfz17_0⟩ := cz1_ BK174.out
    go_wp2
    refine bodyPost_ret (results_ct rfl _ _ gb174 61 #[.slice none 0 0] (0, 0) _ rfl (by (with_reducible repeat (first | refine blk_drewN ?_ _ | refine blk_drew ?_ | refine blk_alloc ?_ _)); refine blk_put (cs := #[.slice none 0 0]) ?_ 0 _ rfl; (with_reducible repeat (first | refine blk_drewN ?_ _ | refine blk_drew ?_ | refine blk_alloc ?_ _)); exact BK174.out) Try.underlying61 rfl (by kernel_rfl)) rfl ?_
    exact ⟨_, fin_, by first | exact Kd.R_nil _ _ _ _ _ | exact Kd.N_nil _ _ _ _ _ | exact Kd.V_nil _ _ _ _ _ | exact Kd.Q_nil _ _ _ _ _ | exact Kd.S_nil _ _ _ _ _, bb_ HB.out⟩
   ·replace c15 := Bool.eq_false_iff.mpr c15
    subst c15
    rw [if_neg (show ¬ (false = true) by decide)] at H
    replace H := Option.bind_eq_some_iff.mp H
    obtain ⟨t178, A180, H⟩ := H
    try dsimp only at H
    have A18 := Aside0.mk A180
    clear A180
    have H' := Aside0.mk H
    clear H
    go_wp2_with (first | ((with_reducible refine gate_dst (N := 6) rfl ?_); refine box_event ?hg (N := 6) ?hd (cs := #[.slice none 0 0]) (t := 61) ?hr ?_; (case hd => rfl); (case hg => rfl); (case hr => first | (go_simp; done) | (go_simp; rfl)); intro gb177 hg w19 hbox hb; have BK177 := Aside0.mk (hbox); have GW177 := Aside0.mk ((by rw [hg]; exact (bz_ HB.out) : w.heap.size ≤ gb177)); have GE177 := Aside0.mk ((by rw [hg]; exact (bz_ HB.out) : w.heap.size ≤ gb177)); replace HB := Aside0.mk (bs_ HB.out hb); have NB173_177 := Aside0.mk ((by rw [hg]; exact Nat.ne_of_lt (bl_ BK173.out) : gb173 ≠ gb177)); have NB177_173 := Aside0.mk ((by rw [hg]; exact Nat.ne_of_gt (bl_ BK173.out) : gb177 ≠ gb173)); replace BK173 := Aside0.mk (bk_ BK173.out hb); have NB174_177 := Aside0.mk ((by rw [hg]; exact Nat.ne_of_lt (bl_ BK174.out) : gb174 ≠ gb177)); have NB177_174 := Aside0.mk ((by rw [hg]; exact Nat.ne_of_gt (bl_ BK174.out) : gb177 ≠ gb174)); replace BK174 := Aside0.mk (bk_ BK174.out hb); clear hb hbox hg; have hnb20 := NB177_173.out; have hnc20 := NB173_177.out; have hnb21 := NB177_174.out; have hnc21 := NB174_177.out; obtain ⟨hcz22_0, hfz22_0⟩ := cz1_ BK177.out; have hnb23 := NB173_174.out; have hnc23 := NB174_173.out; obtain ⟨hcz24_0, hcz24_1, hfz24_0, hfz24_1⟩ := cz2_ BK173.out) | ((with_reducible refine gate_callee (f := 56) rfl ?_); refine gm_ (some 20) Try.func56 #[.agg #[.int .i64 a0_0, .int .i64 a0_1]] rfl ?_; (with_reducible refine (impl_NodeCount.calls a0_0 a0_1 t178 _ A18.out).mono ?_); rintro e w25 ⟨rfl, hb⟩; refine ⟨_, rfl, ?_⟩; replace BK173 := Aside0.mk (blk_below (bf_ BK173.out) hb); replace BK174 := Aside0.mk (blk_below (bf_ BK174.out) hb); replace BK177 := Aside0.mk (blk_below (g := gb177) (o := .cells #[.slice none 0 0] 61 (0, 0)) (by (with_reducible repeat (first | refine blk_drewN ?_ _ | refine blk_drew ?_ | refine blk_alloc ?_ _)); refine blk_put (cs := #[.slice none 0 0]) ?_ 0 _ rfl; (with_reducible repeat (first | refine blk_drewN ?_ _ | refine blk_drew ?_ | refine blk_alloc ?_ _)); exact BK177.out) hb); replace HB := Aside0.mk (bs_ HB.out hb); (try clear hb)))
    go_loopg [21] kj2 (fun kq v21 w' => ∃ (x21_2 : Int) (x178000_2 : List Int) (u178000 : Value), v21 = .int .i64 x21_2 ∧ Aside0 (impl_StandardTable.l0 kq a1 t178 x21_2 a0_0 a0_1 x178000_2 = some (r1, r2)) ∧ Aside0 (kq ≤ kj2) ∧ Aside0 (Kd.R (Kd.int .i64) 3 w' w.heap.size (fun _ => True) u178000 x178000_2) ∧ Aside0 (w'.heap[gb173]? = some (.cells #[.int .i64 a0_0, .int .i64 a0_1] 38 (0, 0))) ∧ Aside0 (w'.heap[gb174]? = some (.cells #[(.slice none 0 0)] 61 (0, 0))) ∧ Aside0 (w'.heap[gb177]? = some (.cells #[u178000] 61 (0, 0))) ∧ Aside0 (Below w.heap.size w w'))
    case atStart => exact ⟨(0), (([] : List Int)), (.slice none 0 0), ef_, H', ⟨Nat.le_refl _⟩, ⟨by first | exact Kd.R_nil _ _ _ _ _ | exact Kd.N_nil _ _ _ _ _ | exact Kd.V_nil _ _ _ _ _ | exact Kd.Q_nil _ _ _ _ _ | exact Kd.S_nil _ _ _ _ _⟩, ⟨bq_ BK173.out⟩, ⟨bq_ BK174.out⟩, ⟨bq_ BK177.out⟩, ⟨bb_ HB.out⟩⟩
    case round =>
     clear H'
     try clear c15
     try clear hcz22_0 hfz22_0
     try clear hcz24_0 hcz24_1 hfz24_0 hfz24_1
     obtain ⟨x21_2, x178000_2, u178000, rfl, HA, HK2, HO_178000, BK173, BK174, BK177, HB⟩ := hrel
     cases gk with
     | zero => exact absurd HA.out (by simp [impl_StandardTable.l0])
     | succ k2 =>
      have H := HA.out
      clear HA
      simp only [impl_StandardTable.l0] at H
      by_cases c26 : x21_2 < t178
      ·rw [if_pos c26] at H
       have c26b0 : decide (x21_2 < t178) = true := decide_eq_true c26
       clear c26
       replace H := Option.bind_eq_some_iff.mp H
       obtain ⟨t179, A270, H⟩ := H
       try dsimp only at H
       have A27 := Aside0.mk A270
       clear A270
       have H' := Aside0.mk H
       clear H
       have hnb28 := NB173_174.out
       have hnc28 := NB174_173.out
       have hnb29 := NB173_177.out
       have hnc29 := NB177_173.out
       obtain ⟨hcz30_0, hcz30_1, hfz30_0, hfz30_1⟩ := cz2_ BK173.out
       go_wp2_with (first | ((with_reducible refine gate_callee (f := 56) rfl ?_); refine gm_ (some 25) Try.func56 #[.agg #[.int .i64 a0_0, .int .i64 a0_1]] rfl ?_; (with_reducible refine (impl_NodeCount.calls a0_0 a0_1 t179 _ A27.out).mono ?_); rintro e w31 ⟨rfl, hb⟩; refine ⟨_, rfl, ?_⟩; replace HO_178000 := Aside0.mk (Kd.R_below (ra_ HO_178000.out) hb); replace BK173 := Aside0.mk (bk_ BK173.out hb); replace BK174 := Aside0.mk (bk_ BK174.out hb); replace BK177 := Aside0.mk (bk_ BK177.out hb); replace HB := Aside0.mk (bs_ HB.out hb); (try clear hb)))
       go_loopg [26] k2 (fun kq v26 w' => ∃ (x26_3 : Int) (x178000_3 : List Int) (u178000 : Value), v26 = .int .i64 x26_3 ∧ Aside0 (impl_StandardTable.l1 kq a1 x21_2 t178 x21_2 t179 x26_3 a0_0 a0_1 x178000_3 = some (r1, r2)) ∧ Aside0 (kq ≤ k2) ∧ Aside0 (Kd.R (Kd.int .i64) 3 w' w.heap.size (fun _ => True) u178000 x178000_3) ∧ Aside0 (w'.heap[gb173]? = some (.cells #[.int .i64 a0_0, .int .i64 a0_1] 38 (0, 0))) ∧ Aside0 (w'.heap[gb174]? = some (.cells #[(.slice none 0 0)] 61 (0, 0))) ∧ Aside0 (w'.heap[gb177]? = some (.cells #[u178000] 61 (0, 0))) ∧ Aside0 (Below w.heap.size w w'))
       case atStart => exact ⟨(0), (x178000_2), (u178000), ef_, H', ⟨Nat.le_refl _⟩, ⟨by (with_reducible repeat (first | apply Kd.R_alloc | apply Kd.R_drewN | apply Kd.R_drew)); exact HO_178000.out⟩, ⟨bq_ BK173.out⟩, ⟨bq_ BK174.out⟩, ⟨bq_ BK177.out⟩, ⟨bb_ HB.out⟩⟩
       case round =>
        clear H'
        try clear c15
        try clear c26
        try clear c26b0
        try clear hcz22_0 hfz22_0
        try clear hcz24_0 hcz24_1 hfz24_0 hfz24_1
        try clear hcz30_0 hcz30_1 hfz30_0 hfz30_1
        obtain ⟨x26_3, x178000_3, u178000, rfl, HA, HK3, HO_178000, BK173, BK174, BK177, HB⟩ := hrel
        cases gk with
        | zero => exact absurd HA.out (by simp [impl_StandardTable.l1])
        | succ k3 =>
         have H := HA.out
         clear HA
         simp only [impl_StandardTable.l1] at H
         by_cases c32 : x26_3 < t179
         ·rw [if_pos c32] at H
          have c32b0 : decide (x26_3 < t179) = true := decide_eq_true c32
          clear c32
          replace H := Option.bind_eq_some_iff.mp H
          obtain ⟨t180, A330, H⟩ := H
          try dsimp only at H
          have A33 := Aside0.mk A330
          clear A330
          by_cases c34 : x178000_3.length < 17592186044416
          ·rw [if_pos c34] at H
           have LMc34 := Aside0.mk c34
           clear c34
           obtain ⟨y181, hy181⟩ : ∃ y_ : List Int, y_ = (x178000_3 ++ [t180]) := ⟨_, rfl⟩
           replace H : (impl_StandardTable.l1 k3 a1 x21_2 t178 x21_2 t179 (wrap64 (x26_3 + 1)) a0_0 a0_1 y181) = some (r1, r2) := by first | (rw [hy181]; with_reducible exact H) | (have H2_ := (Option.bind_some _ _).symm.trans H; rw [hy181]; with_reducible exact H2_) | (have H2_ := (Option.bind_some _ _).symm.trans H; with_reducible exact H2_) | with_reducible exact H | (rw [hy181]; exact H) | exact H
           have Ny181 := Aside0.mk hy181
           clear hy181
           have H' := Aside0.mk H
           clear H
           try go_wp2
           have n0_ := Aside0.mk (Kd.R_drew HO_178000.out)
           have n1_ := Aside0.mk (blk_drew BK173.out)
           have n2_ := Aside0.mk (blk_drew BK174.out)
           have n3_ := Aside0.mk (blk_drew BK177.out)
           have n4_ := Aside0.mk (below_drew1 HB.out)
           clear HO_178000
           clear BK173
           clear BK174
           clear BK177
           clear HB
           have HO_178000 := n0_
           have BK173 := n1_
           have BK174 := n2_
           have BK177 := n3_
           have HB := n4_
           clear n0_ n1_ n2_ n3_ n4_
           refine start_ (n := 11) (S := fun w' => w'.cell? ⟨gb177, 0, none⟩ = some (u178000) ∧ w'.cell? ⟨gb173, 0, none⟩ = some (.int .i64 a0_0) ∧ w'.cell? ⟨gb173, 1, none⟩ = some (.int .i64 a0_1)) (ds := [10]) #[false, false, false, false, false, false, false, false, false, false, false] (by kernel_rfl) rfl rfl ⟨(blk_cell BK177.out 0).trans rfl, (blk_cell BK173.out 0).trans rfl, (blk_cell BK173.out 1).trans rfl⟩ (fun hHeld => ?_); refine with_tabW impl_StandardTable.tab10 impl_StandardTable.bits10 (fun HT_ HW_ => ?_)
           generalize wr.drew = w35 at HO_178000 BK173 BK174 BK177 HB hHeld ⊢
           refine pu_ 0 29 (bt_ 11 1) HT_ ?_
           refine pu_ 3 32 (bt_ 11 9) HT_ ?_
           refine pu_ 4 33 (bt_ 11 25) HT_ ?_
           refine pu_ 5 34 (bt_ 11 57) HT_ ?_
           refine take_ (i := 1) (N := some 30) (v := ?_) (a' := ?_) (bt_ 11 59) rfl rfl (take_ofW HT_.out HW_.out (by kernel_rfl)) (fun _ _ _ h => h) (Or.inl ⟨by rfl, ?_⟩) hHeld ?_ ?_
           rotate_left
           ·rintro w' ⟨s0, s1, s2⟩
            go_simp
            with_reducible rfl
           rotate_left
           ·simp only [Act.put, List.setIfInBounds_toArray, List.set_cons_zero, List.set_cons_succ, i64_w, i32_w]
            rfl
           refine take_ (i := 2) (N := some 31) (v := ?_) (a' := ?_) (bt_ 11 63) rfl rfl (take_ofW HT_.out HW_.out (by kernel_rfl)) (fun _ _ _ h => h) (Or.inl ⟨by rfl, ?_⟩) hHeld ?_ ?_
           rotate_left
           ·rintro w' ⟨s0, s1, s2⟩
            go_simp
            with_reducible rfl
           rotate_left
           ·simp only [Act.put, List.setIfInBounds_toArray, List.set_cons_zero, List.set_cons_succ, i64_w, i32_w]
            rfl
           refine one_ (i := 6) (N := some 35) (bt_ 11 127) rfl rfl (one_of HT_.out (by kernel_rfl)) (by decide) (fun K hK => ?_)
           refine goes_ Try.func57 (by kernel_rfl) rfl #[.agg #[.int .i64 a0_0, .int .i64 a0_1], .int .i64 a1, .int .i64 x21_2, .int .i64 x26_3] (by rfl) rfl rfl (by (try simp only [List.map_toArray, List.map_cons, List.map_nil]); first | done | rfl | (simp only [List.length_drop, List.length_take]; rfl)) ?_
           with_reducible refine (impl_StandardPort.calls k3 a0_0 a0_1 a1 x21_2 x26_3 t180 _ A33.out).mono ?_
           rintro e w36 ⟨rfl, hb⟩
           refine ⟨_, rfl, ?_⟩
           have n0_ := Aside0.mk (Kd.R_below (ra_ HO_178000.out) hb)
           have n1_ := Aside0.mk (bk_ BK173.out hb)
           have n2_ := Aside0.mk (bk_ BK174.out hb)
           have n3_ := Aside0.mk (bk_ BK177.out hb)
           have n4_ := Aside0.mk (bs_ HB.out hb)
           clear HO_178000
           clear BK173
           clear BK174
           clear BK177
           clear HB
           have HO_178000 := n0_
           have BK173 := n1_
           have BK174 := n2_
           have BK177 := n3_
           have HB := n4_
           clear n0_ n1_ n2_ n3_ n4_
           (try clear hb)
           (try clear hb2)
           (try clear hk)
           (try clear hi)
           refine hK.out _ _ ⟨(blk_cell BK177.out 0).trans rfl, (blk_cell BK173.out 0).trans rfl, (blk_cell BK173.out 1).trans rfl⟩ (fun hHeld => ?_)
           clear hK K
           refine norm_ (a' := ?_) ?_ ?_
           rotate_left
           ·show Act.put _ (some 35) _ = _
            simp only [Act.put, List.setIfInBounds_toArray, List.set_cons_zero, List.set_cons_succ, i64_w, i32_w]
            rfl
           refine one_ (i := 7) (N := some 36) (bt_ 11 255) rfl rfl (one_of HT_.out (by kernel_rfl)) (by decide) (fun K hK => ?_)
           refine value_ (w1 := ?_) (v := ?_) (by rfl) rfl ?_ ?_
           rotate_left 2
           ·go_simp
            constructor
            ·rfl
            ·rfl
           refine hK.out _ _ ⟨(blk_cell (blk_alloc BK177.out _) 0).trans rfl, (blk_cell (blk_alloc BK173.out _) 0).trans rfl, (blk_cell (blk_alloc BK173.out _) 1).trans rfl⟩ (fun hHeld => ?_)
           clear hK K
           refine norm_ (a' := ?_) ?_ ?_
           rotate_left
           ·show Act.put _ (some 36) _ = _
            simp only [Act.put, List.setIfInBounds_toArray, List.set_cons_zero, List.set_cons_succ, i64_w, i32_w]
            rfl
           refine one_ (i := 8) (N := some 37) (bt_ 11 511) rfl rfl (one_of HT_.out (by kernel_rfl)) (by decide) (fun K hK => ?_)
           refine Kd.R_append_step (Kd.int .i64) (w0 := w) w.heap.size (by rfl) (.tmp 30) (.tmp 36) 29 3 (.int .i64 0) 8 rfl Try.underlying29 info3 rfl (by decide) (by omega) u178000 x178000_3 t180 [.int .i64 t180] (fun _ => True) (fun _ => False) rfl rfl ?aP (fun _ hk => hk.elim) ?aF ?aO ?aB ?aS ?aL ?_
           (case aP => exact rfl)
           (case aB => exact (by repeat (first | (with_reducible first | exact HB.out | apply below_alloc | apply pw_below_drewN | apply below_drew1 | refine below_set ?_ GE173.out | refine below_set ?_ GE174.out | refine below_set ?_ GE177.out) | exact HB.out)))
           (case aF => exact (fun _ _ => trivial))
           (case aO => exact (ra_ HO_178000.out))
           (case aS => exact (bz_ HB.out))
           (case aL => have := LMc34.out; omega)
           intro v182 w37 ho hb hg hat
           rw [← Ny181.out] at ho
           have n0_ := Aside0.mk (blk_grown (g := gb173) (o := .cells #[.int .i64 a0_0, .int .i64 a0_1] 38 (0, 0)) (by (with_reducible repeat (first | refine blk_drewN ?_ _ | refine blk_drew ?_ | refine blk_alloc ?_ _)); exact BK173.out) hg (Kd.R_ne HO_178000.out BK173.out (by decide)))
           have n1_ := Aside0.mk (blk_grown (g := gb174) (o := .cells #[.slice none 0 0] 61 (0, 0)) (by (with_reducible repeat (first | refine blk_drewN ?_ _ | refine blk_drew ?_ | refine blk_alloc ?_ _)); exact BK174.out) hg (Kd.R_ne HO_178000.out BK174.out (by decide)))
           have n2_ := Aside0.mk (blk_grown (g := gb177) (o := .cells #[u178000] 61 (0, 0)) (by (with_reducible repeat (first | refine blk_drewN ?_ _ | refine blk_drew ?_ | refine blk_alloc ?_ _)); exact BK177.out) hg (Kd.R_ne HO_178000.out BK177.out (by decide)))
           have n3_ := Aside0.mk (hb)
           have n4_ := Aside0.mk (ho)
           clear BK173
           clear BK174
           clear BK177
           clear HB
           clear HO_178000
           have BK173 := n0_
           have BK174 := n1_
           have BK177 := n2_
           have HB := n3_
           have HO183 := n4_
           clear n0_ n1_ n2_ n3_ n4_
           clear ho hb hg hat
           obtain ⟨Ao38, co38, eo38⟩ := Kd.R_slice HO183.out
           (first | subst eo38 | (injection eo38 with f1_ f2_ f3_; have f4_ := f1_.symm; have f5_ := f3_.symm; clear f1_ f2_ f3_; subst f4_; subst f5_))
           refine hK.out _ _ ⟨(blk_cell BK177.out 0).trans rfl, (blk_cell BK173.out 0).trans rfl, (blk_cell BK173.out 1).trans rfl⟩ (fun hHeld => ?_)
           clear hK K
           refine norm_ (a' := ?_) ?_ ?_
           rotate_left
           ·show Act.put _ (some 37) _ = _
            simp only [Act.put, List.setIfInBounds_toArray, List.set_cons_zero, List.set_cons_succ, i64_w, i32_w]
            rfl
           refine pu_ 9 38 (bt_ 11 1023) HT_ ?_
           refine last_ (i := 10) (N := none) (bt_ 11 2047) rfl rfl (one_of HT_.out (by kernel_rfl)) (by decide) (fun K hK => ?_)
           have hs39 : w37.cell? ⟨gb177, 0, none⟩ = some (u178000) := (blk_cell BK177.out 0).trans rfl
           have hfs39 := blk_frozen BK177.out 0
           have hns39_0 := NB173_177.out
           have hns39_1 := NB174_177.out
           have hms39_0 := NB177_173.out
           have hms39_1 := NB177_174.out
           refine skip_ (w1 := ?_) (by rfl) rfl ?_ ?_
           rotate_left
           ·go_simp
            rfl
           refine hK.out _ _ ?_
           clear hK K
           refine done_ (done_of HT_.out (by kernel_rfl)) ?_
           try go_wp2
           go_roundg k3
           case measure => have := HJ2.out; have := HK2.out; have := HK3.out; omega
           case rel => exact ⟨(wrap64 (x26_3 + 1)), (y181), (.slice Ao38 y181.length co38), ef_, H', ⟨by have := HJ2.out; have := HK2.out; have := HK3.out; omega⟩, ⟨rm_ (Kd.R_types HO183.out BK177.out (by decide)) (fun _ hk => trivial)⟩, ⟨by (with_reducible repeat (first | refine blk_drewN ?_ _ | refine blk_drew ?_ | refine blk_alloc ?_ _)); refine blk_far ?_ NB173_177.out _; (with_reducible repeat (first | refine blk_drewN ?_ _ | refine blk_drew ?_ | refine blk_alloc ?_ _)); exact BK173.out⟩, ⟨by (with_reducible repeat (first | refine blk_drewN ?_ _ | refine blk_drew ?_ | refine blk_alloc ?_ _)); refine blk_far ?_ NB174_177.out _; (with_reducible repeat (first | refine blk_drewN ?_ _ | refine blk_drew ?_ | refine blk_alloc ?_ _)); exact BK174.out⟩, ⟨by (with_reducible repeat (first | refine blk_drewN ?_ _ | refine blk_drew ?_ | refine blk_alloc ?_ _)); refine blk_put (cs := #[u178000]) ?_ 0 _ rfl; (with_reducible repeat (first | refine blk_drewN ?_ _ | refine blk_drew ?_ | refine blk_alloc ?_ _)); exact BK177.out⟩, ⟨bb_ HB.out⟩⟩
          ·rw [if_neg c34] at H
           exact absurd H (by simp)
         ·rw [if_neg c32] at H
          have c32b0 : decide (x26_3 < t179) = false := decide_eq_false c32
          clear c32
          have H' := Aside0.mk H
          clear H
          go_wp2
          go_roundg k3
          case measure => have := HJ2.out; have := HK2.out; have := HK3.out; omega
          case rel => exact ⟨(wrap64 (x21_2 + 1)), (x178000_3), (u178000), ef_, H', ⟨by have := HJ2.out; have := HK2.out; have := HK3.out; omega⟩, ⟨by (with_reducible repeat (first | apply Kd.R_alloc | apply Kd.R_drewN | apply Kd.R_drew)); exact HO_178000.out⟩, ⟨bq_ BK173.out⟩, ⟨bq_ BK174.out⟩, ⟨bq_ BK177.out⟩, ⟨bb_ HB.out⟩⟩
      ·rw [if_neg c26] at H
       have c26b0 : decide (x21_2 < t178) = false := decide_eq_false c26
       clear c26
       simp only [Option.some.injEq, Prod.mk.injEq] at H
       obtain ⟨rfl, rfl⟩ := H
       have hnb40 := NB177_173.out
       have hnc40 := NB173_177.out
       have hnb41 := NB177_174.out
       have hnc41 := NB174_177.out
       obtain ⟨hcz42_0, hfz42_0⟩ := cz1_ BK177.out
       obtain ⟨Ao43, co43, eo43⟩ := Kd.R_slice HO_178000.out
       subst eo43
       have hnb44 := NB174_173.out
       have hnc44 := NB173_174.out
       obtain ⟨hcz45_0, hfz45_0⟩ := cz1_ BK174.out
       go_wp2
       refine bodyPost_ret (results_ct rfl _ _ gb174 61 #[.slice Ao43 x178000_2.length co43] (0, 0) _ rfl (by (with_reducible repeat (first | refine blk_drewN ?_ _ | refine blk_drew ?_ | refine blk_alloc ?_ _)); refine blk_put (cs := #[.slice none 0 0]) ?_ 0 _ rfl; (with_reducible repeat (first | refine blk_drewN ?_ _ | refine blk_drew ?_ | refine blk_alloc ?_ _)); exact BK174.out) Try.underlying61 rfl (by kernel_rfl)) rfl ?_
       exact ⟨_, fin_, rm_ (Kd.R_types HO_178000.out BK174.out (by decide)) (fun _ hk => trivial), bb_ HB.out⟩

/-! ### impl_NodeAt: function 77 -/
def impl_NodeAt.f (a0_0 : Int) (a0_1 : Int) (a1 : Int) (a2 : Int) : Option (Int) := (impl_GridOk.f a0_0 a0_1).bind fun t185 => (if t185 = true then ((impl_inside.f a1 0 (wrap64 (a0_0 - 1))).bind fun t186 => (if t186 = true then ((impl_inside.f a2 0 (wrap64 (a0_1 - 1))).bind fun t187 => (if t187 = true then (some (wrap64 ((wrap64 (a2 * a0_0)) + a1))) else (some (-1)))) else (some (-1)))) else (some (-1)))
theorem impl_NodeAt.e0 {P : Prop} (h : P := by
 go_enter Try.func77, Try.ntmps77
 go_wp2_with (first | ((with_reducible refine gate_dst (N := 3) rfl ?_); refine box_event ?hg (N := 3) ?hd (cs := #[.int .i64 a0_0, .int .i64 a0_1]) (t := 38) ?hr ?_; (case hd => rfl); (case hg => rfl); (case hr => first | (go_simp; done) | (go_simp; rfl)); intro gb184 hg w_0 hbox hb; have BK184 := Aside0.mk (hbox); have GW184 := Aside0.mk ((by rw [hg]; exact (bz_ HB.out) : w.heap.size ≤ gb184)); have GE184 := Aside0.mk ((by rw [hg]; exact (bz_ HB.out) : w.heap.size ≤ gb184)); replace HB := Aside0.mk (bs_ HB.out hb); clear hb hbox hg; obtain ⟨hcz_0, hcz_1, hfz_0, hfz_1⟩ := cz2_ BK184.out) | ((with_reducible refine gate_callee (f := 55) rfl ?_); refine gm_ (some 8) Try.func55 #[.agg #[.int .i64 a0_0, .int .i64 a0_1]] rfl ?_; (with_reducible refine (impl_GridOk.calls a0_0 a0_1 _ _ A4.out).mono ?_); rintro e w_0 ⟨rfl, hb⟩; refine ⟨_, rfl, ?_⟩; replace BK184 := Aside0.mk (bk_ BK184.out hb); replace HB := Aside0.mk (bs_ HB.out hb); (try clear hb); obtain ⟨hcz_0, hcz_1, hfz_0, hfz_1⟩ := cz2_ BK184.out) | (go_at_call 43; (with_reducible refine (impl_inside.calls a1 0 (wrap64 (a0_0 - 1)) _ _ A6.out).mono ?_); rintro e w' ⟨rfl, ⟨nd, rfl⟩⟩) | (go_at_call 43; (with_reducible refine (impl_inside.calls a2 0 (wrap64 (a0_1 - 1)) _ _ A8.out).mono ?_); rintro e w' ⟨rfl, ⟨nd, rfl⟩⟩))
 go_ret
 exact ⟨fin_, bb_ HB.out⟩) : P := h
set_option maxHeartbeats 8000000 in
set_option maxRecDepth 100000 in
theorem impl_NodeAt.calls (a0_0 : Int) (a0_1 : Int) (a1 : Int) (a2 : Int) (r : Int) (w : World) (h : impl_NodeAt.f a0_0 a0_1 a1 a2 = some r) :
  Calls Try.prog 77 #[.agg #[.int .i64 a0_0, .int .i64 a0_1], .int .i64 a1, .int .i64 a2] w fun e w' => e = .returned (.int .i64 r) ∧ Below w.heap.size w w' := by
 have hu38 := Try.underlying38
 have HB := Aside0.mk (Below.refl w.heap.size w)
 have H : ((impl_GridOk.f a0_0 a0_1).bind fun t185 => (if t185 = true then ((impl_inside.f a1 0 (wrap64 (a0_0 - 1))).bind fun t186 => (if t186 = true then ((impl_inside.f a2 0 (wrap64 (a0_1 - 1))).bind fun t187 => (if t187 = true then (some (wrap64 ((wrap64 (a2 * a0_0)) + a1))) else (some (-1)))) else (some (-1)))) else (some (-1)))) = some r := h
 clear h
 replace H := Option.bind_eq_some_iff.mp H
 obtain ⟨t185, A40, H⟩ := H
 try dsimp only at H
 have A4 := Aside0.mk A40
 clear A40
 by_cases c5 : t185 = true
 ·subst c5
  rw [if_pos rfl] at H
  replace H := Option.bind_eq_some_iff.mp H
  obtain ⟨t186, A60, H⟩ := H
  try dsimp only at H
  have A6 := Aside0.mk A60
  clear A60
  by_cases c7 : t186 = true
  ·subst c7
   rw [if_pos rfl] at H
   replace H := Option.bind_eq_some_iff.mp H
   obtain ⟨t187, A80, H⟩ := H
   try dsimp only at H
   have A8 := Aside0.mk A80
   clear A80
   by_cases c9 : t187 = true
   ·subst c9
    rw [if_pos rfl] at H
    obtain rfl := Option.some.inj H
    exact impl_NodeAt.e0
   ·replace c9 := Bool.eq_false_iff.mpr c9
    subst c9
    rw [if_neg (show ¬ (false = true) by decide)] at H
    obtain rfl := Option.some.inj H
    exact impl_NodeAt.e0
  ·replace c7 := Bool.eq_false_iff.mpr c7
   subst c7
   rw [if_neg (show ¬ (false = true) by decide)] at H
   obtain rfl := Option.some.inj H
   exact impl_NodeAt.e0
 ·replace c5 := Bool.eq_false_iff.mpr c5
  subst c5
  rw [if_neg (show ¬ (false = true) by decide)] at H
  obtain rfl := Option.some.inj H
  exact impl_NodeAt.e0

/-! ### impl_NextNode: function 75 -/
def impl_NextNode.f (a0_0 : Int) (a0_1 : Int) (a1 : Int) (a2 : Int) : Option (Int) := (impl_isNode.f a0_0 a0_1 a1).bind fun t189 => (if t189 = true then (if a0_0 = 0 then (none) else (if a2 = 0 then ((impl_NodeAt.f a0_0 a0_1 (Int.tmod a1 a0_0) (wrap64 ((wrap64 (Int.tdiv a1 a0_0)) - 1))).bind fun t190 => (some t190)) else (if a2 = 1 then ((impl_NodeAt.f a0_0 a0_1 (wrap64 ((Int.tmod a1 a0_0) + 1)) (wrap64 (Int.tdiv a1 a0_0))).bind fun t191 => (some t191)) else (if a2 = 2 then ((impl_NodeAt.f a0_0 a0_1 (Int.tmod a1 a0_0) (wrap64 ((wrap64 (Int.tdiv a1 a0_0)) + 1))).bind fun t192 => (some t192)) else (if a2 = 3 then ((impl_NodeAt.f a0_0 a0_1 (wrap64 ((Int.tmod a1 a0_0) - 1)) (wrap64 (Int.tdiv a1 a0_0))).bind fun t193 => (some t193)) else (if a2 = 4 then (some a1) else (some (-1)))))))) else (some (-1)))
set_option maxHeartbeats 8000000 in
set_option maxRecDepth 100000 in
theorem impl_NextNode.calls (a0_0 : Int) (a0_1 : Int) (a1 : Int) (a2 : Int) (r : Int) (w : World) (h : impl_NextNode.f a0_0 a0_1 a1 a2 = some r) :
  Calls Try.prog 75 #[.agg #[.int .i64 a0_0, .int .i64 a0_1], .int .i64 a1, .int .i64 a2] w fun e w' => e = .returned (.int .i64 r) ∧ Below w.heap.size w w' := by
 have hu38 := Try.underlying38
 have HB := Aside0.mk (Below.refl w.heap.size w)
 have H : ((impl_isNode.f a0_0 a0_1 a1).bind fun t189 => (if t189 = true then (if a0_0 = 0 then (none) else (if a2 = 0 then ((impl_NodeAt.f a0_0 a0_1 (Int.tmod a1 a0_0) (wrap64 ((wrap64 (Int.tdiv a1 a0_0)) - 1))).bind fun t190 => (some t190)) else (if a2 = 1 then ((impl_NodeAt.f a0_0 a0_1 (wrap64 ((Int.tmod a1 a0_0) + 1)) (wrap64 (Int.tdiv a1 a0_0))).bind fun t191 => (some t191)) else (if a2 = 2 then ((impl_NodeAt.f a0_0 a0_1 (Int.tmod a1 a0_0) (wrap64 ((wrap64 (Int.tdiv a1 a0_0)) + 1))).bind fun t192 => (some t192)) else (if a2 = 3 then ((impl_NodeAt.f a0_0 a0_1 (wrap64 ((Int.tmod a1 a0_0) - 1)) (wrap64 (Int.tdiv a1 a0_0))).bind fun t193 => (some t193)) else (if a2 = 4 then (some a1) else (some (-1)))))))) else (some (-1)))) = some r := h
 clear h
 replace H := Option.bind_eq_some_iff.mp H
 obtain ⟨t189, A40, H⟩ := H
 try dsimp only at H
 have A4 := Aside0.mk A40
 clear A40
 by_cases c5 : t189 = true
 ·subst c5
  rw [if_pos rfl] at H
  by_cases c6 : a0_0 = 0
  ·rw [if_pos c6] at H
   exact absurd H (by simp)
  ·rw [if_neg c6] at H
   have c6b0 : (a0_0 == 0) = false := beq_eq_false_iff_ne.mpr c6
   have c6b1 : (a0_0 != 0) = true := bne_iff_ne.mpr c6
   by_cases c7 : a2 = 0
   ·rw [if_pos c7] at H
    have c7b0 : (a2 == 0) = true := beq_iff_eq.mpr c7
    have c7b1 : (a2 != 0) = false := bne_eq_false_iff_eq.mpr c7
    clear c7
    replace H := Option.bind_eq_some_iff.mp H
    obtain ⟨t190, A80, H⟩ := H
    try dsimp only at H
    have A8 := Aside0.mk A80
    clear A80
    obtain rfl := Option.some.inj H
    go_enter Try.func75, Try.ntmps75
    go_wp2_with (first | ((with_reducible refine gate_dst (N := 3) rfl ?_); refine box_event ?hg (N := 3) ?hd (cs := #[.int .i64 a0_0, .int .i64 a0_1]) (t := 38) ?hr ?_; (case hd => rfl); (case hg => rfl); (case hr => first | (go_simp; done) | (go_simp; rfl)); intro gb188 hg w9 hbox hb; have BK188 := Aside0.mk (hbox); have GW188 := Aside0.mk ((by rw [hg]; exact (bz_ HB.out) : w.heap.size ≤ gb188)); have GE188 := Aside0.mk ((by rw [hg]; exact (bz_ HB.out) : w.heap.size ≤ gb188)); replace HB := Aside0.mk (bs_ HB.out hb); clear hb hbox hg; obtain ⟨hcz10_0, hcz10_1, hfz10_0, hfz10_1⟩ := cz2_ BK188.out) | (go_at_call 44; (with_reducible refine (impl_isNode.calls a0_0 a0_1 a1 true _ A4.out).mono ?_); rintro e w11 ⟨rfl, hb⟩; replace BK188 := Aside0.mk (bk_ BK188.out hb); replace HB := Aside0.mk (bs_ HB.out hb); (try clear hb); obtain ⟨hcz12_0, hcz12_1, hfz12_0, hfz12_1⟩ := cz2_ BK188.out) | (go_at_call 77; (with_reducible refine (impl_NodeAt.calls a0_0 a0_1 (Int.tmod a1 a0_0) (wrap64 ((wrap64 (Int.tdiv a1 a0_0)) - 1)) t190 _ A8.out).mono ?_); rintro e w13 ⟨rfl, hb⟩; replace BK188 := Aside0.mk (bk_ BK188.out hb); replace HB := Aside0.mk (bs_ HB.out hb); (try clear hb)))
    repeat (go_quiet (first | ((with_reducible refine gate_dst (N := 3) rfl ?_); refine box_event ?hg (N := 3) ?hd (cs := #[.int .i64 a0_0, .int .i64 a0_1]) (t := 38) ?hr ?_; (case hd => rfl); (case hg => rfl); (case hr => first | (go_simp; done) | (go_simp; rfl)); intro gb188 hg w9 hbox hb; have BK188 := Aside0.mk (hbox); have GW188 := Aside0.mk ((by rw [hg]; exact (bz_ HB.out) : w.heap.size ≤ gb188)); have GE188 := Aside0.mk ((by rw [hg]; exact (bz_ HB.out) : w.heap.size ≤ gb188)); replace HB := Aside0.mk (bs_ HB.out hb); clear hb hbox hg; obtain ⟨hcz10_0, hcz10_1, hfz10_0, hfz10_1⟩ := cz2_ BK188.out) | (go_at_call 44; (with_reducible refine (impl_isNode.calls a0_0 a0_1 a1 true _ A4.out).mono ?_); rintro e w11 ⟨rfl, hb⟩; replace BK188 := Aside0.mk (bk_ BK188.out hb); replace HB := Aside0.mk (bs_ HB.out hb); (try clear hb); obtain ⟨hcz12_0, hcz12_1, hfz12_0, hfz12_1⟩ := cz2_ BK188.out) | (go_at_call 77; (with_reducible refine (impl_NodeAt.calls a0_0 a0_1 (Int.tmod a1 a0_0) (wrap64 ((wrap64 (Int.tdiv a1 a0_0)) - 1)) t190 _ A8.out).mono ?_); rintro e w13 ⟨rfl, hb⟩; replace BK188 := Aside0.mk (bk_ BK188.out hb); replace HB := Aside0.mk (bs_ HB.out hb); (try clear hb))); try go_wp2_with (first | ((with_reducible refine gate_dst (N := 3) rfl ?_); refine box_event ?hg (N := 3) ?hd (cs := #[.int .i64 a0_0, .int .i64 a0_1]) (t := 38) ?hr ?_; (case hd => rfl); (case hg => rfl); (case hr => first | (go_simp; done) | (go_simp; rfl)); intro gb188 hg w9 hbox hb; have BK188 := Aside0.mk (hbox); have GW188 := Aside0.mk ((by rw [hg]; exact (bz_ HB.out) : w.heap.size ≤ gb188)); have GE188 := Aside0.mk ((by rw [hg]; exact (bz_ HB.out) : w.heap.size ≤ gb188)); replace HB := Aside0.mk (bs_ HB.out hb); clear hb hbox hg; obtain ⟨hcz10_0, hcz10_1, hfz10_0, hfz10_1⟩ := cz2_ BK188.out) | (go_at_call 44; (with_reducible refine (impl_isNode.calls a0_0 a0_1 a1 true _ A4.out).mono ?_); rintro e w11 ⟨rfl, hb⟩; replace BK188 := Aside0.mk (bk_ BK188.out hb); replace HB := Aside0.mk (bs_ HB.out hb); (try clear hb); obtain ⟨hcz12_0, hcz12_1, hfz12_0, hfz12_1⟩ := cz2_ BK188.out) | (go_at_call 77; (with_reducible refine (impl_NodeAt.calls a0_0 a0_1 (Int.tmod a1 a0_0) (wrap64 ((wrap64 (Int.tdiv a1 a0_0)) - 1)) t190 _ A8.out).mono ?_); rintro e w13 ⟨rfl, hb⟩; replace BK188 := Aside0.mk (bk_ BK188.out hb); replace HB := Aside0.mk (bs_ HB.out hb); (try clear hb))))
    go_ret
    exact ⟨fin_, bb_ HB.out⟩
   ·rw [if_neg c7] at H
    have c7b0 : (a2 == 0) = false := beq_eq_false_iff_ne.mpr c7
    have c7b1 : (a2 != 0) = true := bne_iff_ne.mpr c7
    by_cases c14 : a2 = 1
    ·rw [if_pos c14] at H
     have c14b0 : (a2 == 1) = true := beq_iff_eq.mpr c14
     have c14b1 : (a2 != 1) = false := bne_eq_false_iff_eq.mpr c14
     clear c14
     replace H := Option.bind_eq_some_iff.mp H
     obtain ⟨t191, A150, H⟩ := H
     try dsimp only at H
     have A15 := Aside0.mk A150
     clear A150
     obtain rfl := Option.some.inj H
     go_enter Try.func75, Try.ntmps75
     go_wp2_with (first | ((with_reducible refine gate_dst (N := 3) rfl ?_); refine box_event ?hg (N := 3) ?hd (cs := #[.int .i64 a0_0, .int .i64 a0_1]) (t := 38) ?hr ?_; (case hd => rfl); (case hg => rfl); (case hr => first | (go_simp; done) | (go_simp; rfl)); intro gb188 hg w16 hbox hb; have BK188 := Aside0.mk (hbox); have GW188 := Aside0.mk ((by rw [hg]; exact (bz_ HB.out) : w.heap.size ≤ gb188)); have GE188 := Aside0.mk ((by rw [hg]; exact (bz_ HB.out) : w.heap.size ≤ gb188)); replace HB := Aside0.mk (bs_ HB.out hb); clear hb hbox hg; obtain ⟨hcz17_0, hcz17_1, hfz17_0, hfz17_1⟩ := cz2_ BK188.out) | (go_at_call 44; (with_reducible refine (impl_isNode.calls a0_0 a0_1 a1 true _ A4.out).mono ?_); rintro e w18 ⟨rfl, hb⟩; replace BK188 := Aside0.mk (bk_ BK188.out hb); replace HB := Aside0.mk (bs_ HB.out hb); (try clear hb); obtain ⟨hcz19_0, hcz19_1, hfz19_0, hfz19_1⟩ := cz2_ BK188.out) | (go_at_call 77; (with_reducible refine (impl_NodeAt.calls a0_0 a0_1 (wrap64 ((Int.tmod a1 a0_0) + 1)) (wrap64 (Int.tdiv a1 a0_0)) t191 _ A15.out).mono ?_); rintro e w20 ⟨rfl, hb⟩; replace BK188 := Aside0.mk (bk_ BK188.out hb); replace HB := Aside0.mk (bs_ HB.out hb); (try clear hb)))
     repeat (go_quiet (first | ((with_reducible refine gate_dst (N := 3) rfl ?_); refine box_event ?hg (N := 3) ?hd (cs := #[.int .i64 a0_0, .int .i64 a0_1]) (t := 38) ?hr ?_; (case hd => rfl); (case hg => rfl); (case hr => first | (go_simp; done) | (go_simp; rfl)); intro gb188 hg w16 hbox hb; have BK188 := Aside0.mk (hbox); have GW188 := Aside0.mk ((by rw [hg]; exact (bz_ HB.out) : w.heap.size ≤ gb188)); have GE188 := Aside0.mk ((by rw [hg]; exact (bz_ HB.out) : w.heap.size ≤ gb188)); replace HB := Aside0.mk (bs_ HB.out hb); clear hb hbox hg; obtain ⟨hcz17_0, hcz17_1, hfz17_0, hfz17_1⟩ := cz2_ BK188.out) | (go_at_call 44; (with_reducible refine (impl_isNode.calls a0_0 a0_1 a1 true _ A4.out).mono ?_); rintro e w18 ⟨rfl, hb⟩; replace BK188 := Aside0.mk (bk_ BK188.out hb); replace HB := Aside0.mk (bs_ HB.out hb); (try clear hb); obtain ⟨hcz19_0, hcz19_1, hfz19_0, hfz19_1⟩ := cz2_ BK188.out) | (go_at_call 77; (with_reducible refine (impl_NodeAt.calls a0_0 a0_1 (wrap64 ((Int.tmod a1 a0_0) + 1)) (wrap64 (Int.tdiv a1 a0_0)) t191 _ A15.out).mono ?_); rintro e w20 ⟨rfl, hb⟩; replace BK188 := Aside0.mk (bk_ BK188.out hb); replace HB := Aside0.mk (bs_ HB.out hb); (try clear hb))); try go_wp2_with (first | ((with_reducible refine gate_dst (N := 3) rfl ?_); refine box_event ?hg (N := 3) ?hd (cs := #[.int .i64 a0_0, .int .i64 a0_1]) (t := 38) ?hr ?_; (case hd => rfl); (case hg => rfl); (case hr => first | (go_simp; done) | (go_simp; rfl)); intro gb188 hg w16 hbox hb; have BK188 := Aside0.mk (hbox); have GW188 := Aside0.mk ((by rw [hg]; exact (bz_ HB.out) : w.heap.size ≤ gb188)); have GE188 := Aside0.mk ((by rw [hg]; exact (bz_ HB.out) : w.heap.size ≤ gb188)); replace HB := Aside0.mk (bs_ HB.out hb); clear hb hbox hg; obtain ⟨hcz17_0, hcz17_1, hfz17_0, hfz17_1⟩ := cz2_ BK188.out) | (go_at_call 44; (with_reducible refine (impl_isNode.calls a0_0 a0_1 a1 true _ A4.out).mono ?_); rintro e w18 ⟨rfl, hb⟩; replace BK188 := Aside0.mk (bk_ BK188.out hb); replace HB := Aside0.mk (bs_ HB.out hb); (try clear hb); obtain ⟨hcz19_0, hcz19_1, hfz19_0, hfz19_1⟩ := cz2_ BK188.out) | (go_at_call 77; (with_reducible refine (impl_NodeAt.calls a0_0 a0_1 (wrap64 ((Int.tmod a1 a0_0) + 1)) (wrap64 (Int.tdiv a1 a0_0)) t191 _ A15.out).mono ?_); rintro e w20 ⟨rfl, hb⟩; replace BK188 := Aside0.mk (bk_ BK188.out hb); replace HB := Aside0.mk (bs_ HB.out hb); (try clear hb))))
     go_ret
     exact ⟨fin_, bb_ HB.out⟩
    ·rw [if_neg c14] at H
     have c14b0 : (a2 == 1) = false := beq_eq_false_iff_ne.mpr c14
     have c14b1 : (a2 != 1) = true := bne_iff_ne.mpr c14
     by_cases c21 : a2 = 2
     ·rw [if_pos c21] at H
      have c21b0 : (a2 == 2) = true := beq_iff_eq.mpr c21
      have c21b1 : (a2 != 2) = false := bne_eq_false_iff_eq.mpr c21
      clear c21
      replace H := Option.bind_eq_some_iff.mp H
      obtain ⟨t192, A220, H⟩ := H
      try dsimp only at H
      have A22 := Aside0.mk A220
      clear A220
      obtain rfl := Option.some.inj H
      go_enter Try.func75, Try.ntmps75
      go_wp2_with (first | ((with_reducible refine gate_dst (N := 3) rfl ?_); refine box_event ?hg (N := 3) ?hd (cs := #[.int .i64 a0_0, .int .i64 a0_1]) (t := 38) ?hr ?_; (case hd => rfl); (case hg => rfl); (case hr => first | (go_simp; done) | (go_simp; rfl)); intro gb188 hg w23 hbox hb; have BK188 := Aside0.mk (hbox); have GW188 := Aside0.mk ((by rw [hg]; exact (bz_ HB.out) : w.heap.size ≤ gb188)); have GE188 := Aside0.mk ((by rw [hg]; exact (bz_ HB.out) : w.heap.size ≤ gb188)); replace HB := Aside0.mk (bs_ HB.out hb); clear hb hbox hg; obtain ⟨hcz24_0, hcz24_1, hfz24_0, hfz24_1⟩ := cz2_ BK188.out) | (go_at_call 44; (with_reducible refine (impl_isNode.calls a0_0 a0_1 a1 true _ A4.out).mono ?_); rintro e w25 ⟨rfl, hb⟩; replace BK188 := Aside0.mk (bk_ BK188.out hb); replace HB := Aside0.mk (bs_ HB.out hb); (try clear hb); obtain ⟨hcz26_0, hcz26_1, hfz26_0, hfz26_1⟩ := cz2_ BK188.out) | (go_at_call 77; (with_reducible refine (impl_NodeAt.calls a0_0 a0_1 (Int.tmod a1 a0_0) (wrap64 ((wrap64 (Int.tdiv a1 a0_0)) + 1)) t192 _ A22.out).mono ?_); rintro e w27 ⟨rfl, hb⟩; replace BK188 := Aside0.mk (bk_ BK188.out hb); replace HB := Aside0.mk (bs_ HB.out hb); (try clear hb)))
      repeat (go_quiet (first | ((with_reducible refine gate_dst (N := 3) rfl ?_); refine box_event ?hg (N := 3) ?hd (cs := #[.int .i64 a0_0, .int .i64 a0_1]) (t := 38) ?hr ?_; (case hd => rfl); (case hg => rfl); (case hr => first | (go_simp; done) | (go_simp; rfl)); intro gb188 hg w23 hbox hb; have BK188 := Aside0.mk (hbox); have GW188 := Aside0.mk ((by rw [hg]; exact (bz_ HB.out) : w.heap.size ≤ gb188)); have GE188 := Aside0.mk ((by rw [hg]; exact (bz_ HB.out) : w.heap.size ≤ gb188)); replace HB := Aside0.mk (bs_ HB.out hb); clear hb hbox hg; obtain ⟨hcz24_0, hcz24_1, hfz24_0, hfz24_1⟩ := cz2_ BK188.out) | (go_at_call 44; (with_reducible refine (impl_isNode.calls a0_0 a0_1 a1 true _ A4.out).mono ?_); rintro e w25 ⟨rfl, hb⟩; replace BK188 := Aside0.mk (bk_ BK188.out hb); replace HB := Aside0.mk (bs_ HB.out hb); (try clear hb); obtain ⟨hcz26_0, hcz26_1, hfz26_0, hfz26_1⟩ := cz2_ BK188.out) | (go_at_call 77; (with_reducible refine (impl_NodeAt.calls a0_0 a0_1 (Int.tmod a1 a0_0) (wrap64 ((wrap64 (Int.tdiv a1 a0_0)) + 1)) t192 _ A22.out).mono ?_); rintro e w27 ⟨rfl, hb⟩; replace BK188 := Aside0.mk (bk_ BK188.out hb); replace HB := Aside0.mk (bs_ HB.out hb); (try clear hb))); try go_wp2_with (first | ((with_reducible refine gate_dst (N := 3) rfl ?_); refine box_event ?hg (N := 3) ?hd (cs := #[.int .i64 a0_0, .int .i64 a0_1]) (t := 38) ?hr ?_; (case hd => rfl); (case hg => rfl); (case hr => first | (go_simp; done) | (go_simp; rfl)); intro gb188 hg w23 hbox hb; have BK188 := Aside0.mk (hbox); have GW188 := Aside0.mk ((by rw [hg]; exact (bz_ HB.out) : w.heap.size ≤ gb188)); have GE188 := Aside0.mk ((by rw [hg]; exact (bz_ HB.out) : w.heap.size ≤ gb188)); replace HB := Aside0.mk (bs_ HB.out hb); clear hb hbox hg; obtain ⟨hcz24_0, hcz24_1, hfz24_0, hfz24_1⟩ := cz2_ BK188.out) | (go_at_call 44; (with_reducible refine (impl_isNode.calls a0_0 a0_1 a1 true _ A4.out).mono ?_); rintro e w25 ⟨rfl, hb⟩; replace BK188 := Aside0.mk (bk_ BK188.out hb); replace HB := Aside0.mk (bs_ HB.out hb); (try clear hb); obtain ⟨hcz26_0, hcz26_1, hfz26_0, hfz26_1⟩ := cz2_ BK188.out) | (go_at_call 77; (with_reducible refine (impl_NodeAt.calls a0_0 a0_1 (Int.tmod a1 a0_0) (wrap64 ((wrap64 (Int.tdiv a1 a0_0)) + 1)) t192 _ A22.out).mono ?_); rintro e w27 ⟨rfl, hb⟩; replace BK188 := Aside0.mk (bk_ BK188.out hb); replace HB := Aside0.mk (bs_ HB.out hb); (try clear hb))))
      go_ret
      exact ⟨fin_, bb_ HB.out⟩
     ·rw [if_neg c21] at H
      have c21b0 : (a2 == 2) = false := beq_eq_false_iff_ne.mpr c21
      have c21b1 : (a2 != 2) = true := bne_iff_ne.mpr c21
      by_cases c28 : a2 = 3
      ·rw [if_pos c28] at H
       have c28b0 : (a2 == 3) = true := beq_iff_eq.mpr c28
       have c28b1 : (a2 != 3) = false := bne_eq_false_iff_eq.mpr c28
       clear c28
       replace H := Option.bind_eq_some_iff.mp H
       obtain ⟨t193, A290, H⟩ := H
       try dsimp only at H
       have A29 := Aside0.mk A290
       clear A290
       obtain rfl := Option.some.inj H
       go_enter Try.func75, Try.ntmps75
       go_wp2_with (first | ((with_reducible refine gate_dst (N := 3) rfl ?_); refine box_event ?hg (N := 3) ?hd (cs := #[.int .i64 a0_0, .int .i64 a0_1]) (t := 38) ?hr ?_; (case hd => rfl); (case hg => rfl); (case hr => first | (go_simp; done) | (go_simp; rfl)); intro gb188 hg w30 hbox hb; have BK188 := Aside0.mk (hbox); have GW188 := Aside0.mk ((by rw [hg]; exact (bz_ HB.out) : w.heap.size ≤ gb188)); have GE188 := Aside0.mk ((by rw [hg]; exact (bz_ HB.out) : w.heap.size ≤ gb188)); replace HB := Aside0.mk (bs_ HB.out hb); clear hb hbox hg; obtain ⟨hcz31_0, hcz31_1, hfz31_0, hfz31_1⟩ := cz2_ BK188.out) | (go_at_call 44; (with_reducible refine (impl_isNode.calls a0_0 a0_1 a1 true _ A4.out).mono ?_); rintro e w32 ⟨rfl, hb⟩; replace BK188 := Aside0.mk (bk_ BK188.out hb); replace HB := Aside0.mk (bs_ HB.out hb); (try clear hb); obtain ⟨hcz33_0, hcz33_1, hfz33_0, hfz33_1⟩ := cz2_ BK188.out) | (go_at_call 77; (with_reducible refine (impl_NodeAt.calls a0_0 a0_1 (wrap64 ((Int.tmod a1 a0_0) - 1)) (wrap64 (Int.tdiv a1 a0_0)) t193 _ A29.out).mono ?_); rintro e w34 ⟨rfl, hb⟩; replace BK188 := Aside0.mk (bk_ BK188.out hb); replace HB := Aside0.mk (bs_ HB.out hb); (try clear hb)))
       repeat (go_quiet (first | ((with_reducible refine gate_dst (N := 3) rfl ?_); refine box_event ?hg (N := 3) ?hd (cs := #[.int .i64 a0_0, .int .i64 a0_1]) (t := 38) ?hr ?_; (case hd => rfl); (case hg => rfl); (case hr => first | (go_simp; done) | (go_simp; rfl)); intro gb188 hg w30 hbox hb; have BK188 := Aside0.mk (hbox); have GW188 := Aside0.mk ((by rw [hg]; exact (bz_ HB.out) : w.heap.size ≤ gb188)); have GE188 := Aside0.mk ((by rw [hg]; exact (bz_ HB.out) : w.heap.size ≤ gb188)); replace HB := Aside0.mk (bs_ HB.out hb); clear hb hbox hg; obtain ⟨hcz31_0, hcz31_1, hfz31_0, hfz31_1⟩ := cz2_ BK188.out) | (go_at_call 44; (with_reducible refine (impl_isNode.calls a0_0 a0_1 a1 true _ A4.out).mono ?_); rintro e w32 ⟨rfl, hb⟩; replace BK188 := Aside0.mk (bk_ BK188.out hb); replace HB := Aside0.mk (bs_ HB.out hb); (try clear hb); obtain ⟨hcz33_0, hcz33_1, hfz33_0, hfz33_1⟩ := cz2_ BK188.out) | (go_at_call 77; (with_reducible refine (impl_NodeAt.calls a0_0 a0_1 (wrap64 ((Int.tmod a1 a0_0) - 1)) (wrap64 (Int.tdiv a1 a0_0)) t193 _ A29.out).mono ?_); rintro e w34 ⟨rfl, hb⟩; replace BK188 := Aside0.mk (bk_ BK188.out hb); replace HB := Aside0.mk (bs_ HB.out hb); (try clear hb))); try go_wp2_with (first | ((with_reducible refine gate_dst (N := 3) rfl ?_); refine box_event ?hg (N := 3) ?hd (cs := #[.int .i64 a0_0, .int .i64 a0_1]) (t := 38) ?hr ?_; (case hd => rfl); (case hg => rfl); (case hr => first | (go_simp; done) | (go_simp; rfl)); intro gb188 hg w30 hbox hb; have BK188 := Aside0.mk (hbox); have GW188 := Aside0.mk ((by rw [hg]; exact (bz_ HB.out) : w.heap.size ≤ gb188)); have GE188 := Aside0.mk ((by rw [hg]; exact (bz_ HB.out) : w.heap.size ≤ gb188)); replace HB := Aside0.mk (bs_ HB.out hb); clear hb hbox hg; obtain ⟨hcz31_0, hcz31_1, hfz31_0, hfz31_1⟩ := cz2_ BK188.out) | (go_at_call 44; (with_reducible refine (impl_isNode.calls a0_0 a0_1 a1 true _ A4.out).mono ?_); rintro e w32 ⟨rfl, hb⟩; replace BK188 := Aside0.mk (bk_ BK188.out hb); replace HB := Aside0.mk (bs_ HB.out hb); (try clear hb); obtain ⟨hcz33_0, hcz33_1, hfz33_0, hfz33_1⟩ := cz2_ BK188.out) | (go_at_call 77; (with_reducible refine (impl_NodeAt.calls a0_0 a0_1 (wrap64 ((Int.tmod a1 a0_0) - 1)) (wrap64 (Int.tdiv a1 a0_0)) t193 _ A29.out).mono ?_); rintro e w34 ⟨rfl, hb⟩; replace BK188 := Aside0.mk (bk_ BK188.out hb); replace HB := Aside0.mk (bs_ HB.out hb); (try clear hb))))
       go_ret
       exact ⟨fin_, bb_ HB.out⟩
      ·rw [if_neg c28] at H
       have c28b0 : (a2 == 3) = false := beq_eq_false_iff_ne.mpr c28
       have c28b1 : (a2 != 3) = true := bne_iff_ne.mpr c28
       by_cases c35 : a2 = 4
       ·rw [if_pos c35] at H
        have c35b0 : (a2 == 4) = true := beq_iff_eq.mpr c35
        have c35b1 : (a2 != 4) = false := bne_eq_false_iff_eq.mpr c35
        clear c35
        obtain rfl := Option.some.inj H
        go_enter Try.func75, Try.ntmps75
        go_wp2_with (first | ((with_reducible refine gate_dst (N := 3) rfl ?_); refine box_event ?hg (N := 3) ?hd (cs := #[.int .i64 a0_0, .int .i64 a0_1]) (t := 38) ?hr ?_; (case hd => rfl); (case hg => rfl); (case hr => first | (go_simp; done) | (go_simp; rfl)); intro gb188 hg w36 hbox hb; have BK188 := Aside0.mk (hbox); have GW188 := Aside0.mk ((by rw [hg]; exact (bz_ HB.out) : w.heap.size ≤ gb188)); have GE188 := Aside0.mk ((by rw [hg]; exact (bz_ HB.out) : w.heap.size ≤ gb188)); replace HB := Aside0.mk (bs_ HB.out hb); clear hb hbox hg; obtain ⟨hcz37_0, hcz37_1, hfz37_0, hfz37_1⟩ := cz2_ BK188.out) | (go_at_call 44; (with_reducible refine (impl_isNode.calls a0_0 a0_1 a1 true _ A4.out).mono ?_); rintro e w38 ⟨rfl, hb⟩; replace BK188 := Aside0.mk (bk_ BK188.out hb); replace HB := Aside0.mk (bs_ HB.out hb); (try clear hb); obtain ⟨hcz39_0, hcz39_1, hfz39_0, hfz39_1⟩ := cz2_ BK188.out))
        repeat (go_quiet (first | ((with_reducible refine gate_dst (N := 3) rfl ?_); refine box_event ?hg (N := 3) ?hd (cs := #[.int .i64 a0_0, .int .i64 a0_1]) (t := 38) ?hr ?_; (case hd => rfl); (case hg => rfl); (case hr => first | (go_simp; done) | (go_simp; rfl)); intro gb188 hg w36 hbox hb; have BK188 := Aside0.mk (hbox); have GW188 := Aside0.mk ((by rw [hg]; exact (bz_ HB.out) : w.heap.size ≤ gb188)); have GE188 := Aside0.mk ((by rw [hg]; exact (bz_ HB.out) : w.heap.size ≤ gb188)); replace HB := Aside0.mk (bs_ HB.out hb); clear hb hbox hg; obtain ⟨hcz37_0, hcz37_1, hfz37_0, hfz37_1⟩ := cz2_ BK188.out) | (go_at_call 44; (with_reducible refine (impl_isNode.calls a0_0 a0_1 a1 true _ A4.out).mono ?_); rintro e w38 ⟨rfl, hb⟩; replace BK188 := Aside0.mk (bk_ BK188.out hb); replace HB := Aside0.mk (bs_ HB.out hb); (try clear hb); obtain ⟨hcz39_0, hcz39_1, hfz39_0, hfz39_1⟩ := cz2_ BK188.out)); try go_wp2_with (first | ((with_reducible refine gate_dst (N := 3) rfl ?_); refine box_event ?hg (N := 3) ?hd (cs := #[.int .i64 a0_0, .int .i64 a0_1]) (t := 38) ?hr ?_; (case hd => rfl); (case hg => rfl); (case hr => first | (go_simp; done) | (go_simp; rfl)); intro gb188 hg w36 hbox hb; have BK188 := Aside0.mk (hbox); have GW188 := Aside0.mk ((by rw [hg]; exact (bz_ HB.out) : w.heap.size ≤ gb188)); have GE188 := Aside0.mk ((by rw [hg]; exact (bz_ HB.out) : w.heap.size ≤ gb188)); replace HB := Aside0.mk (bs_ HB.out hb); clear hb hbox hg; obtain ⟨hcz37_0, hcz37_1, hfz37_0, hfz37_1⟩ := cz2_ BK188.out) | (go_at_call 44; (with_reducible refine (impl_isNode.calls a0_0 a0_1 a1 true _ A4.out).mono ?_); rintro e w38 ⟨rfl, hb⟩; replace BK188 := Aside0.mk (bk_ BK188.out hb); replace HB := Aside0.mk (bs_ HB.out hb); (try clear hb); obtain ⟨hcz39_0, hcz39_1, hfz39_0, hfz39_1⟩ := cz2_ BK188.out)))
        go_ret
        exact ⟨fin_, bb_ HB.out⟩
       ·rw [if_neg c35] at H
        have c35b0 : (a2 == 4) = false := beq_eq_false_iff_ne.mpr c35
        have c35b1 : (a2 != 4) = true := bne_iff_ne.mpr c35
        obtain rfl := Option.some.inj H
        go_enter Try.func75, Try.ntmps75
        go_wp2_with (first | ((with_reducible refine gate_dst (N := 3) rfl ?_); refine box_event ?hg (N := 3) ?hd (cs := #[.int .i64 a0_0, .int .i64 a0_1]) (t := 38) ?hr ?_; (case hd => rfl); (case hg => rfl); (case hr => first | (go_simp; done) | (go_simp; rfl)); intro gb188 hg w40 hbox hb; have BK188 := Aside0.mk (hbox); have GW188 := Aside0.mk ((by rw [hg]; exact (bz_ HB.out) : w.heap.size ≤ gb188)); have GE188 := Aside0.mk ((by rw [hg]; exact (bz_ HB.out) : w.heap.size ≤ gb188)); replace HB := Aside0.mk (bs_ HB.out hb); clear hb hbox hg; obtain ⟨hcz41_0, hcz41_1, hfz41_0, hfz41_1⟩ := cz2_ BK188.out) | (go_at_call 44; (with_reducible refine (impl_isNode.calls a0_0 a0_1 a1 true _ A4.out).mono ?_); rintro e w42 ⟨rfl, hb⟩; replace BK188 := Aside0.mk (bk_ BK188.out hb); replace HB := Aside0.mk (bs_ HB.out hb); (try clear hb); obtain ⟨hcz43_0, hcz43_1, hfz43_0, hfz43_1⟩ := cz2_ BK188.out))
        repeat (go_quiet (first | ((with_reducible refine gate_dst (N := 3) rfl ?_); refine box_event ?hg (N := 3) ?hd (cs := #[.int .i64 a0_0, .int .i64 a0_1]) (t := 38) ?hr ?_; (case hd => rfl); (case hg => rfl); (case hr => first | (go_simp; done) | (go_simp; rfl)); intro gb188 hg w40 hbox hb; have BK188 := Aside0.mk (hbox); have GW188 := Aside0.mk ((by rw [hg]; exact (bz_ HB.out) : w.heap.size ≤ gb188)); have GE188 := Aside0.mk ((by rw [hg]; exact (bz_ HB.out) : w.heap.size ≤ gb188)); replace HB := Aside0.mk (bs_ HB.out hb); clear hb hbox hg; obtain ⟨hcz41_0, hcz41_1, hfz41_0, hfz41_1⟩ := cz2_ BK188.out) | (go_at_call 44; (with_reducible refine (impl_isNode.calls a0_0 a0_1 a1 true _ A4.out).mono ?_); rintro e w42 ⟨rfl, hb⟩; replace BK188 := Aside0.mk (bk_ BK188.out hb); replace HB := Aside0.mk (bs_ HB.out hb); (try clear hb); obtain ⟨hcz43_0, hcz43_1, hfz43_0, hfz43_1⟩ := cz2_ BK188.out)); try go_wp2_with (first | ((with_reducible refine gate_dst (N := 3) rfl ?_); refine box_event ?hg (N := 3) ?hd (cs := #[.int .i64 a0_0, .int .i64 a0_1]) (t := 38) ?hr ?_; (case hd => rfl); (case hg => rfl); (case hr => first | (go_simp; done) | (go_simp; rfl)); intro gb188 hg w40 hbox hb; have BK188 := Aside0.mk (hbox); have GW188 := Aside0.mk ((by rw [hg]; exact (bz_ HB.out) : w.heap.size ≤ gb188)); have GE188 := Aside0.mk ((by rw [hg]; exact (bz_ HB.out) : w.heap.size ≤ gb188)); replace HB := Aside0.mk (bs_ HB.out hb); clear hb hbox hg; obtain ⟨hcz41_0, hcz41_1, hfz41_0, hfz41_1⟩ := cz2_ BK188.out) | (go_at_call 44; (with_reducible refine (impl_isNode.calls a0_0 a0_1 a1 true _ A4.out).mono ?_); rintro e w42 ⟨rfl, hb⟩; replace BK188 := Aside0.mk (bk_ BK188.out hb); replace HB := Aside0.mk (bs_ HB.out hb); (try clear hb); obtain ⟨hcz43_0, hcz43_1, hfz43_0, hfz43_1⟩ := cz2_ BK188.out)))
        go_ret
        exact ⟨fin_, bb_ HB.out⟩
 ·replace c5 := Bool.eq_false_iff.mpr c5
  subst c5
  rw [if_neg (show ¬ (false = true) by decide)] at H
  obtain rfl := Option.some.inj H
  go_enter Try.func75, Try.ntmps75
  go_wp2_with (first | ((with_reducible refine gate_dst (N := 3) rfl ?_); refine box_event ?hg (N := 3) ?hd (cs := #[.int .i64 a0_0, .int .i64 a0_1]) (t := 38) ?hr ?_; (case hd => rfl); (case hg => rfl); (case hr => first | (go_simp; done) | (go_simp; rfl)); intro gb188 hg w44 hbox hb; have BK188 := Aside0.mk (hbox); have GW188 := Aside0.mk ((by rw [hg]; exact (bz_ HB.out) : w.heap.size ≤ gb188)); have GE188 := Aside0.mk ((by rw [hg]; exact (bz_ HB.out) : w.heap.size ≤ gb188)); replace HB := Aside0.mk (bs_ HB.out hb); clear hb hbox hg; obtain ⟨hcz45_0, hcz45_1, hfz45_0, hfz45_1⟩ := cz2_ BK188.out) | (go_at_call 44; (with_reducible refine (impl_isNode.calls a0_0 a0_1 a1 false _ A4.out).mono ?_); rintro e w46 ⟨rfl, hb⟩; replace BK188 := Aside0.mk (bk_ BK188.out hb); replace HB := Aside0.mk (bs_ HB.out hb); (try clear hb)))
  repeat (go_quiet (first | ((with_reducible refine gate_dst (N := 3) rfl ?_); refine box_event ?hg (N := 3) ?hd (cs := #[.int .i64 a0_0, .int .i64 a0_1]) (t := 38) ?hr ?_; (case hd => rfl); (case hg => rfl); (case hr => first | (go_simp; done) | (go_simp; rfl)); intro gb188 hg w44 hbox hb; have BK188 := Aside0.mk (hbox); have GW188 := Aside0.mk ((by rw [hg]; exact (bz_ HB.out) : w.heap.size ≤ gb188)); have GE188 := Aside0.mk ((by rw [hg]; exact (bz_ HB.out) : w.heap.size ≤ gb188)); replace HB := Aside0.mk (bs_ HB.out hb); clear hb hbox hg; obtain ⟨hcz45_0, hcz45_1, hfz45_0, hfz45_1⟩ := cz2_ BK188.out) | (go_at_call 44; (with_reducible refine (impl_isNode.calls a0_0 a0_1 a1 false _ A4.out).mono ?_); rintro e w46 ⟨rfl, hb⟩; replace BK188 := Aside0.mk (bk_ BK188.out hb); replace HB := Aside0.mk (bs_ HB.out hb); (try clear hb))); try go_wp2_with (first | ((with_reducible refine gate_dst (N := 3) rfl ?_); refine box_event ?hg (N := 3) ?hd (cs := #[.int .i64 a0_0, .int .i64 a0_1]) (t := 38) ?hr ?_; (case hd => rfl); (case hg => rfl); (case hr => first | (go_simp; done) | (go_simp; rfl)); intro gb188 hg w44 hbox hb; have BK188 := Aside0.mk (hbox); have GW188 := Aside0.mk ((by rw [hg]; exact (bz_ HB.out) : w.heap.size ≤ gb188)); have GE188 := Aside0.mk ((by rw [hg]; exact (bz_ HB.out) : w.heap.size ≤ gb188)); replace HB := Aside0.mk (bs_ HB.out hb); clear hb hbox hg; obtain ⟨hcz45_0, hcz45_1, hfz45_0, hfz45_1⟩ := cz2_ BK188.out) | (go_at_call 44; (with_reducible refine (impl_isNode.calls a0_0 a0_1 a1 false _ A4.out).mono ?_); rintro e w46 ⟨rfl, hb⟩; replace BK188 := Aside0.mk (bk_ BK188.out hb); replace HB := Aside0.mk (bs_ HB.out hb); (try clear hb))))
  go_ret
  exact ⟨fin_, bb_ HB.out⟩

/-! ### impl_leads: function 62 -/
def impl_leads.f (a0_0 : Int) (a0_1 : Int) (a1 : Int) : Option (Bool) := (impl_NodeCount.f a0_0 a0_1).bind fun t195 => ((impl_inside.f a1 0 (wrap64 ((wrap64 (4 * t195)) - 1))).bind fun t196 => (if t196 = true then ((impl_NextNode.f a0_0 a0_1 (wrap64 (Int.tdiv a1 4)) (Int.tmod a1 4)).bind fun t197 => (some (decide (t197 ≥ 0)))) else (some false)))
theorem impl_leads.e0 {P : Prop} (h : P := by
 go_enter Try.func62, Try.ntmps62
 go_wp2_with (first | ((with_reducible refine gate_dst (N := 2) rfl ?_); refine box_event ?hg (N := 2) ?hd (cs := #[.int .i64 a0_0, .int .i64 a0_1]) (t := 38) ?hr ?_; (case hd => rfl); (case hg => rfl); (case hr => first | (go_simp; done) | (go_simp; rfl)); intro gb194 hg w_0 hbox hb; have BK194 := Aside0.mk (hbox); have GW194 := Aside0.mk ((by rw [hg]; exact (bz_ HB.out) : w.heap.size ≤ gb194)); have GE194 := Aside0.mk ((by rw [hg]; exact (bz_ HB.out) : w.heap.size ≤ gb194)); replace HB := Aside0.mk (bs_ HB.out hb); clear hb hbox hg; obtain ⟨hcz_0, hcz_1, hfz_0, hfz_1⟩ := cz2_ BK194.out) | ((with_reducible refine gate_callee (f := 56) rfl ?_); refine gm_ (some 7) Try.func56 #[.agg #[.int .i64 a0_0, .int .i64 a0_1]] rfl ?_; (with_reducible refine (impl_NodeCount.calls a0_0 a0_1 t195 _ A3.out).mono ?_); rintro e w_0 ⟨rfl, hb⟩; refine ⟨_, rfl, ?_⟩; replace BK194 := Aside0.mk (bk_ BK194.out hb); replace HB := Aside0.mk (bs_ HB.out hb); (try clear hb)) | ((with_reducible refine gate_callee (f := 43) rfl ?_); refine gm_ (some 10) Try.func43 #[.int .i64 a1, .int .i64 0, .int .i64 (wrap64 ((wrap64 (4 * t195)) - 1))] rfl ?_; (with_reducible refine (impl_inside.calls a1 0 (wrap64 ((wrap64 (4 * t195)) - 1)) _ _ A4.out).mono ?_); rintro e w' ⟨rfl, ⟨nd, rfl⟩⟩; refine ⟨_, rfl, ?_⟩; obtain ⟨hcz_0, hcz_1, hfz_0, hfz_1⟩ := cz2_ BK194.out) | (go_at_call 75; (with_reducible refine (impl_NextNode.calls a0_0 a0_1 (wrap64 (Int.tdiv a1 4)) (Int.tmod a1 4) t197 _ A6.out).mono ?_); rintro e w_0 ⟨rfl, hb⟩; replace BK194 := Aside0.mk (bk_ BK194.out hb); replace HB := Aside0.mk (bs_ HB.out hb); (try clear hb)))
 go_ret
 exact ⟨fin_, bb_ HB.out⟩) : P := h
set_option maxHeartbeats 8000000 in
set_option maxRecDepth 100000 in
theorem impl_leads.calls (a0_0 : Int) (a0_1 : Int) (a1 : Int) (r : Bool) (w : World) (h : impl_leads.f a0_0 a0_1 a1 = some r) :
  Calls Try.prog 62 #[.agg #[.int .i64 a0_0, .int .i64 a0_1], .int .i64 a1] w fun e w' => e = .returned (.bool r) ∧ Below w.heap.size w w' := by
 have hu38 := Try.underlying38
 have HB := Aside0.mk (Below.refl w.heap.size w)
 have H : ((impl_NodeCount.f a0_0 a0_1).bind fun t195 => ((impl_inside.f a1 0 (wrap64 ((wrap64 (4 * t195)) - 1))).bind fun t196 => (if t196 = true then ((impl_NextNode.f a0_0 a0_1 (wrap64 (Int.tdiv a1 4)) (Int.tmod a1 4)).bind fun t197 => (some (decide (t197 ≥ 0)))) else (some false)))) = some r := h
 clear h
 replace H := Option.bind_eq_some_iff.mp H
 obtain ⟨t195, A30, H⟩ := H
 try dsimp only at H
 have A3 := Aside0.mk A30
 clear A30
 replace H := Option.bind_eq_some_iff.mp H
 obtain ⟨t196, A40, H⟩ := H
 try dsimp only at H
 have A4 := Aside0.mk A40
 clear A40
 by_cases c5 : t196 = true
 ·subst c5
  rw [if_pos rfl] at H
  replace H := Option.bind_eq_some_iff.mp H
  obtain ⟨t197, A60, H⟩ := H
  try dsimp only at H
  have A6 := Aside0.mk A60
  clear A60
  obtain rfl := Option.some.inj H
  exact impl_leads.e0
 ·replace c5 := Bool.eq_false_iff.mpr c5
  subst c5
  rw [if_neg (show ¬ (false = true) by decide)] at H
  obtain rfl := Option.some.inj H
  exact impl_leads.e0

end Go.Proofs.Ytjialkmfmpkjgaa.PFnRanksXY
-- thin
