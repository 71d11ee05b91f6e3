/- Each function that the law comes to, as a plain function, with the proof that the call in the model gives what that function says (written by a program of this session out of the translation). No condition. -/
import Derived.Test.YtagmogkdlimofaaPFnExactShortestCyclex0
import Derived.Test.YtagmogkdlimofaaPFnExactShortestCyclex2
import Derived.Test.YtagmogkdlimofaaPFnExactShortestCyclex4
namespace Go.Proofs.Ytagmogkdlimofaa.PFnExactShortestCycle
open Go.RowKit Go.Proofs.YtagmogkdlimofaaW.PrintWords Go.Proofs.YtagmogkdlimofaaW.PrintLast Go.Proofs.YtagmogkdlimofaaW.PrintMore
attribute [local go_sem] max2_int min2_int max_two min_two max_three min_three max_four min_four   -- for this text's walks alone
set_option linter.unusedVariables false
set_option linter.unusedSimpArgs false

/-! ### impl_SuccessorsOf: function 36 -/
def impl_SuccessorsOf.l0 : Nat → Int → List Int → List (S44) → Int → Int → Option (List Int)
 | 0, _, _, _, _, _ => none
 | k + 1, x1, x5, x9, x10, x11 => if x11 < x10 then (if 0 ≤ x11 then (if x11 < (x9.length : Int) then (if ((rd_T44 x9 x11).f0) = x1 then (if x5.length < 17592186044416 then (impl_SuccessorsOf.l0 k x1 (x5 ++ [(rd_T44 x9 x11).f1]) x9 x10 (wrap64 (x11 + 1))) else (none)) else (impl_SuccessorsOf.l0 k x1 x5 x9 x10 (wrap64 (x11 + 1)))) else (none)) else (none)) else (some x5)
def impl_SuccessorsOf.f (k : Nat) (l0 : List (S44)) (a1 : Int) : Option (List Int) := impl_SuccessorsOf.l0 k a1 (([] : List Int)) l0 (l0.length : Int) 0
theorem impl_SuccessorsOf.mono_l : ∀ k, (∀ y0 y1 y2 y3 y4, LeO (impl_SuccessorsOf.l0 k y0 y1 y2 y3 y4) (impl_SuccessorsOf.l0 (k + 1) y0 y1 y2 y3 y4))
 | 0 => fun _ _ _ _ _ r h => by simp [impl_SuccessorsOf.l0] at h
 | k + 1 => by
  have ih0 := impl_SuccessorsOf.mono_l k
  ·intro y0 y1 y2 y3 y4
   unfold impl_SuccessorsOf.l0
   repeat' first
   | (with_reducible exact ih0 _ _ _ _ _)
   | (with_reducible exact LeO.refl _)
   | (with_reducible exact LeO.none _)
   | (with_reducible refine LeO.ite ?_ ?_)
   | (with_reducible refine LeO.bind ?_ (fun _ => ?_))
   | exact ih0 _ _ _ _ _
   | exact LeO.none _
   | refine LeO.ite ?_ ?_
   | refine LeO.bind ?_ (fun _ => ?_)
theorem impl_SuccessorsOf.mono : ∀ a0 a1 k, LeO (impl_SuccessorsOf.f k a0 a1) (impl_SuccessorsOf.f (k + 1) a0 a1) := by
 intro a0 a1 k
 have ih0 := impl_SuccessorsOf.mono_l k
 unfold impl_SuccessorsOf.f
 repeat' first
   | (with_reducible exact ih0 _ _ _ _ _)
   | (with_reducible exact LeO.refl _)
   | (with_reducible exact LeO.none _)
   | (with_reducible refine LeO.ite ?_ ?_)
   | (with_reducible refine LeO.bind ?_ (fun _ => ?_))
   | exact ih0 _ _ _ _ _
   | exact LeO.none _
   | refine LeO.ite ?_ ?_
   | refine LeO.bind ?_ (fun _ => ?_)
set_option maxHeartbeats 8000000 in
set_option maxRecDepth 100000 in
theorem impl_SuccessorsOf.calls (k : Nat) (A0 : Option Addr) (c0 : Nat) (l0 : List (S44)) (a1 : Int) (r : List Int) (w : World) (hr0 : Kd.C k44 w A0 l0.length l0) (hc0 : l0.length ≤ c0) (h : impl_SuccessorsOf.f k l0 a1 = some r) :
  Calls Try.prog 36 #[.slice A0 l0.length c0, .int .i64 a1] w fun e w' => ∃ v0_ : Value, e = .returned (v0_) ∧ Kd.R (Kd.int .i64) 3 w' w.heap.size (fun _ => True) v0_ r ∧ Below w.heap.size w w' := by
 have hu44 := Try.underlying44
 have HR0 := Aside0.mk hr0
 have HC0 := Aside0.mk hc0
 clear hr0 hc0
 have HB := Aside0.mk (Below.refl w.heap.size w)
 have H : (impl_SuccessorsOf.l0 k a1 (([] : List Int)) l0 (l0.length : Int) 0) = some r := h
 clear h
 obtain ⟨y146, hy146⟩ : ∃ y_ : List Int, y_ = (([] : List Int)) := ⟨_, rfl⟩
 replace H : (impl_SuccessorsOf.l0 k a1 y146 l0 (l0.length : Int) 0) = some r := by first | (rw [hy146]; with_reducible exact H) | (have H2_ := (Option.bind_some _ _).symm.trans H; rw [hy146]; with_reducible exact H2_) | (have H2_ := (Option.bind_some _ _).symm.trans H; with_reducible exact H2_) | with_reducible exact H | (rw [hy146]; exact H) | exact H
 have Ny146 := Aside0.mk hy146
 clear hy146
 have H' := Aside0.mk H
 clear H
 go_enter Try.func36, Try.ntmps36
 go_wp2_with (first | ((with_reducible refine gate_dst (N := 8) rfl ?_); refine Kd.R_lit (Kd.int .i64) _ 3 ?hg (N := 8) ?hd (xs := ([] : List Int)) (inner := []) (ok := fun _ => True) (okp := fun _ => True) ?hr ?hp (fun _ hk => hk) trivial (Below.refl _ _) (Nat.le_refl _) (by simp) ?_; (case hd => rfl); (case hg => rfl); (case hr => first | (go_simp; done) | (go_simp; rfl)); (case hp => exact (Reps.none _ _)); intro v147 w3 ho4 hb hg_ hnew_; clear hg_ hnew_; (first | rw [← Ny146.out] at ho4 | (simp only [Int.reduceToNat] at ho4; rw [← Ny146.out] at ho4)); have HO148 := Aside0.mk (Kd.R_lower ho4 (bz_ HB.out)); replace HB := Aside0.mk (bs_ HB.out hb); clear hb ho4))
 go_loopg [5, 11] k (fun kq v5 v11 w' => ∃ (x5_1 : List Int) (x11_1 : Int), v11 = .int .i64 x11_1 ∧ Aside0 (impl_SuccessorsOf.l0 kq a1 x5_1 l0 (l0.length : Int) x11_1 = some r) ∧ Aside0 (kq ≤ k) ∧ Aside0 (Kd.R (Kd.int .i64) 3 w' w.heap.size (fun _ => True) v5 x5_1) ∧ Aside0 (Below w.heap.size w w'))
 case atStart => exact ⟨(y146), (0), ef_, H', ⟨Nat.le_refl _⟩, ⟨by (with_reducible repeat (first | apply Kd.R_alloc | apply Kd.R_drewN | apply Kd.R_drew)); exact HO148.out⟩, ⟨bb_ HB.out⟩⟩
 case round =>
  clear H'
  obtain ⟨x5_1, x11_1, rfl, HA, HK1, HO_5, HB⟩ := hrel
  cases gk with
  | zero => exact absurd HA.out (by simp [impl_SuccessorsOf.l0])
  | succ k1 =>
   have H := HA.out
   clear HA
   simp only [impl_SuccessorsOf.l0] at H
   by_cases c5 : x11_1 < (l0.length : Int)
   ·rw [if_pos c5] at H
    have c5b0 : decide (x11_1 < (l0.length : Int)) = true := decide_eq_true c5
    clear c5
    by_cases c6 : 0 ≤ x11_1
    ·rw [if_pos c6] at H
     have c6b0 : decide (0 ≤ x11_1) = true := decide_eq_true c6
     clear c6
     by_cases c7 : x11_1 < (l0.length : Int)
     ·rw [if_pos c7] at H
      have c7b0 : decide (x11_1 < (l0.length : Int)) = true := decide_eq_true c7
      clear c7
      by_cases c8 : ((rd_T44 l0 x11_1).f0) = a1
      ·rw [if_pos c8] at H
       have c8b0 : (((rd_T44 l0 x11_1).f0) == a1) = true := beq_iff_eq.mpr c8
       have c8b1 : (((rd_T44 l0 x11_1).f0) != a1) = false := bne_eq_false_iff_eq.mpr c8
       clear c8
       by_cases c9 : x5_1.length < 17592186044416
       ·rw [if_pos c9] at H
        have LMc9 := Aside0.mk c9
        clear c9
        obtain ⟨y151, hy151⟩ : ∃ y_ : List Int, y_ = (x5_1 ++ [(rd_T44 l0 x11_1).f1]) := ⟨_, rfl⟩
        replace H : (impl_SuccessorsOf.l0 k1 a1 y151 l0 (l0.length : Int) (wrap64 (x11_1 + 1))) = some r := by first | (rw [hy151]; with_reducible exact H) | (have H2_ := (Option.bind_some _ _).symm.trans H; rw [hy151]; with_reducible exact H2_) | (have H2_ := (Option.bind_some _ _).symm.trans H; with_reducible exact H2_) | with_reducible exact H | (rw [hy151]; exact H) | exact H
        have Ny151 := Aside0.mk hy151
        clear hy151
        have H' := Aside0.mk H
        clear H
        have p149 : 0 ≤ (x11_1 : Int) := of_decide_eq_true dg_
        have q149 : x11_1 < (l0.length : Int) := of_decide_eq_true dg_
        obtain ⟨ad149, e149, hx149_0, hx149_1⟩ := at_T44 HR0.out x11_1 p149 q149
        cases e149
        replace hx149_0 := (HB.out.cell (World.block_lt_of_cell? w _ hx149_0)).trans hx149_0
        replace hx149_1 := (HB.out.cell (World.block_lt_of_cell? w _ hx149_1)).trans hx149_1
        replace p149 := eq_true p149
        replace q149 := eq_true q149
        go_wp2_with (first | ((with_reducible refine gate_dst (N := 7) rfl ?_); refine box_event ?hg (N := 7) ?hd (cs := #[.int .i64 0, .int .i64 0]) (t := 44) ?hr ?_; (case hd => rfl); (case hg => rfl); (case hr => first | (go_simp; done) | (go_simp; rfl)); intro gb150 hg w10 hbox hb; replace HO_5 := Aside0.mk (Kd.R_below (ra_ HO_5.out) hb); have BK150 := Aside0.mk (hbox); have GW150 := Aside0.mk ((by rw [hg]; exact (bz_ HB.out) : w.heap.size ≤ gb150)); have GE150 := Aside0.mk ((by rw [hg]; exact (bz_ HB.out) : w.heap.size ≤ gb150)); replace HB := Aside0.mk (bs_ HB.out hb); clear hb hbox hg; obtain ⟨hcz11_0, hcz11_1, hfz11_0, hfz11_1⟩ := cz2_ BK150.out) | ((with_reducible refine gate_builtin (b := .append) (xs := #[.tmp 19, .tmp 22]) rfl ?_); at_builtin; refine Kd.R_append (Kd.int .i64) (w0 := w) w.heap.size rfl (.tmp 19) (.tmp 22) 26 3 (.int .i64 0) 8 rfl Try.underlying26 info3 rfl (by decide) (by omega) u5 x5_1 ((rd_T44 l0 x11_1).f1) [.int .i64 ((rd_T44 l0 x11_1).f1)] (fun _ => True) (fun _ => False) rfl (by first | (go_simp; done) | (go_simp; rfl)) ?aP (fun _ hk => hk.elim) ?aF ?aO ?aB ?aS ?aL ?_; (case aP => exact rfl); (case aB => exact (by repeat (first | (with_reducible first | exact HB.out | apply below_alloc | apply pw_below_drewN | apply below_drew1 | refine below_set ?_ GE150.out) | exact HB.out))); (case aF => exact (fun _ _ => trivial)); (case aO => exact (rm_ (Kd.R_types HO_5.out BK150.out (by decide)) (fun _ hk => trivial))); (case aS => exact (bz_ HB.out)); (case aL => have := LMc9.out; omega); intro v152 w12 ho hb hg hat; rw [← Ny151.out] at ho; have n0_ := Aside0.mk (blk_grown (g := gb150) (o := .cells #[.int .i64 ((rd_T44 l0 x11_1).f0), .int .i64 ((rd_T44 l0 x11_1).f1)] 44 (0, 0)) (by (with_reducible repeat (first | refine blk_drewN ?_ _ | refine blk_drew ?_ | refine blk_alloc ?_ _)); refine blk_put (cs := #[.int .i64 ((rd_T44 l0 x11_1).f0), .int .i64 0]) ?_ 1 _ rfl; (with_reducible repeat (first | refine blk_drewN ?_ _ | refine blk_drew ?_ | refine blk_alloc ?_ _)); refine blk_put (cs := #[.int .i64 0, .int .i64 0]) ?_ 0 _ rfl; (with_reducible repeat (first | refine blk_drewN ?_ _ | refine blk_drew ?_ | refine blk_alloc ?_ _)); exact BK150.out) hg (Kd.R_ne HO_5.out BK150.out (by decide))); have n1_ := Aside0.mk (hb); have n2_ := Aside0.mk (ho); clear BK150; clear HB; clear HO_5; have BK150 := n0_; have HB := n1_; have HO153 := n2_; clear n0_ n1_ n2_; clear ho hb hg hat))
        go_roundg k1
        case measure => have := HK1.out; omega
        case rel => exact ⟨(y151), (wrap64 (x11_1 + 1)), ef_, H', ⟨by have := HK1.out; omega⟩, ⟨by (with_reducible repeat (first | apply Kd.R_alloc | apply Kd.R_drewN | apply Kd.R_drew)); exact HO153.out⟩, ⟨bb_ HB.out⟩⟩
       ·rw [if_neg c9] at H
        exact absurd H (by simp)
      ·rw [if_neg c8] at H
       have c8b0 : (((rd_T44 l0 x11_1).f0) == a1) = false := beq_eq_false_iff_ne.mpr c8
       have c8b1 : (((rd_T44 l0 x11_1).f0) != a1) = true := bne_iff_ne.mpr c8
       have H' := Aside0.mk H
       clear H
       have p149 : 0 ≤ (x11_1 : Int) := of_decide_eq_true dg_
       have q149 : x11_1 < (l0.length : Int) := of_decide_eq_true dg_
       obtain ⟨ad149, e149, hx149_0, hx149_1⟩ := at_T44 HR0.out x11_1 p149 q149
       cases e149
       replace hx149_0 := (HB.out.cell (World.block_lt_of_cell? w _ hx149_0)).trans hx149_0
       replace hx149_1 := (HB.out.cell (World.block_lt_of_cell? w _ hx149_1)).trans hx149_1
       replace p149 := eq_true p149
       replace q149 := eq_true q149
       go_wp2_with (first | ((with_reducible refine gate_dst (N := 7) rfl ?_); refine box_event ?hg (N := 7) ?hd (cs := #[.int .i64 0, .int .i64 0]) (t := 44) ?hr ?_; (case hd => rfl); (case hg => rfl); (case hr => first | (go_simp; done) | (go_simp; rfl)); intro gb150 hg w13 hbox hb; replace HO_5 := Aside0.mk (Kd.R_below (ra_ HO_5.out) hb); have BK150 := Aside0.mk (hbox); have GW150 := Aside0.mk ((by rw [hg]; exact (bz_ HB.out) : w.heap.size ≤ gb150)); have GE150 := Aside0.mk ((by rw [hg]; exact (bz_ HB.out) : w.heap.size ≤ gb150)); replace HB := Aside0.mk (bs_ HB.out hb); clear hb hbox hg; obtain ⟨hcz14_0, hcz14_1, hfz14_0, hfz14_1⟩ := cz2_ BK150.out))
       go_roundg k1
       case measure => have := HK1.out; omega
       case rel => exact ⟨(x5_1), (wrap64 (x11_1 + 1)), ef_, H', ⟨by have := HK1.out; omega⟩, ⟨rm_ (Kd.R_types HO_5.out BK150.out (by decide)) (fun _ hk => trivial)⟩, ⟨bb_ HB.out⟩⟩
     ·rw [if_neg c7] at H
      exact absurd H (by simp)
    ·rw [if_neg c6] at H
     exact absurd H (by simp)
   ·rw [if_neg c5] at H
    have c5b0 : decide (x11_1 < (l0.length : Int)) = false := decide_eq_false c5
    clear c5
    obtain rfl := Option.some.inj H
    go_wp2
    go_ret
    exact ⟨_, fin_, by (with_reducible repeat (first | apply Kd.R_alloc | apply Kd.R_drewN | apply Kd.R_drew)); exact HO_5.out, bb_ HB.out⟩

/-! ### impl_cycleFrom: function 45 -/
mutual
def impl_cycleFrom.l0 : Nat → List (S44) → Int → List Int → List Int → Int → Option (List Int)
 | 0, _, _, _, _, _ => none
 | k + 1, x0, x1, x5, x6, x7 => (impl_SuccessorsOf.f k x0 x7).bind fun t160 => (impl_cycleFrom.l1 k x0 x1 x5 x6 x7 (-1) t160 (t160.length : Int) 0)
def impl_cycleFrom.l1 : Nat → List (S44) → Int → List Int → List Int → Int → Int → List Int → Int → Int → Option (List Int)
 | 0, _, _, _, _, _, _, _, _, _ => none
 | k + 1, x0, x1, x5, x6, x7, x8, x19, x20, x21 => if x21 < x20 then (if 0 ≤ x21 then (if x21 < (x19.length : Int) then (if (rd x19 x21) ≥ x1 then (if 0 ≤ (rd x19 x21) then (if (rd x19 x21) < (x5.length : Int) then (if (rd x5 (rd x19 x21)) ≥ 0 then (if x8 < 0 then (impl_cycleFrom.l1 k x0 x1 x5 x6 x7 (rd x19 x21) x19 x20 (wrap64 (x21 + 1))) else (if 0 ≤ x8 then (if x8 < (x5.length : Int) then (if (rd x5 (rd x19 x21)) < (rd x5 x8) then (impl_cycleFrom.l1 k x0 x1 x5 x6 x7 (rd x19 x21) x19 x20 (wrap64 (x21 + 1))) else (impl_cycleFrom.l1 k x0 x1 x5 x6 x7 x8 x19 x20 (wrap64 (x21 + 1)))) else (none)) else (none))) else (impl_cycleFrom.l1 k x0 x1 x5 x6 x7 x8 x19 x20 (wrap64 (x21 + 1)))) else (none)) else (none)) else (impl_cycleFrom.l1 k x0 x1 x5 x6 x7 x8 x19 x20 (wrap64 (x21 + 1)))) else (none)) else (none)) else (if x8 < 0 then (some ([] : List Int)) else (if x6.length < 17592186044416 then ((some (x6 ++ [x7] : List Int)).bind fun y167 => (if x8 = x1 then (some y167) else (impl_cycleFrom.l0 k x0 x1 x5 y167 x8))) else (none)))
end
def impl_cycleFrom.f (k : Nat) (l0 : List (S44)) (a1 : Int) : Option (List Int) := (impl_distancesTo.f k l0 a1 a1).bind fun t154 => (impl_cycleFrom.l0 k l0 a1 t154 (([] : List Int)) a1)
theorem impl_cycleFrom.mono_l : ∀ k, (∀ y0 y1 y2 y3 y4, LeO (impl_cycleFrom.l0 k y0 y1 y2 y3 y4) (impl_cycleFrom.l0 (k + 1) y0 y1 y2 y3 y4)) ∧ (∀ y0 y1 y2 y3 y4 y5 y6 y7 y8, LeO (impl_cycleFrom.l1 k y0 y1 y2 y3 y4 y5 y6 y7 y8) (impl_cycleFrom.l1 (k + 1) y0 y1 y2 y3 y4 y5 y6 y7 y8))
 | 0 => ⟨fun _ _ _ _ _ r h => by simp [impl_cycleFrom.l0] at h, fun _ _ _ _ _ _ _ _ _ r h => by simp [impl_cycleFrom.l1] at h⟩
 | k + 1 => by
  obtain ⟨ih0, ih1⟩ := impl_cycleFrom.mono_l k
  refine ⟨?_, ?_⟩
  ·intro y0 y1 y2 y3 y4
   unfold impl_cycleFrom.l0
   repeat' first
   | (with_reducible exact ih0 _ _ _ _ _)
   | (with_reducible exact ih1 _ _ _ _ _ _ _ _ _)
   | (with_reducible exact impl_SuccessorsOf.mono _ _ _)
   | (with_reducible exact impl_distancesTo.mono _ _ _ _)
   | (with_reducible exact LeO.refl _)
   | (with_reducible exact LeO.none _)
   | (with_reducible refine LeO.ite ?_ ?_)
   | (with_reducible refine LeO.bind ?_ (fun _ => ?_))
   | exact ih0 _ _ _ _ _
   | exact ih1 _ _ _ _ _ _ _ _ _
   | exact impl_SuccessorsOf.mono _ _ _
   | exact impl_distancesTo.mono _ _ _ _
   | exact LeO.none _
   | refine LeO.ite ?_ ?_
   | refine LeO.bind ?_ (fun _ => ?_)
  ·intro y0 y1 y2 y3 y4 y5 y6 y7 y8
   unfold impl_cycleFrom.l1
   repeat' first
   | (with_reducible exact ih0 _ _ _ _ _)
   | (with_reducible exact ih1 _ _ _ _ _ _ _ _ _)
   | (with_reducible exact impl_SuccessorsOf.mono _ _ _)
   | (with_reducible exact impl_distancesTo.mono _ _ _ _)
   | (with_reducible exact LeO.refl _)
   | (with_reducible exact LeO.none _)
   | (with_reducible refine LeO.ite ?_ ?_)
   | (with_reducible refine LeO.bind ?_ (fun _ => ?_))
   | exact ih0 _ _ _ _ _
   | exact ih1 _ _ _ _ _ _ _ _ _
   | exact impl_SuccessorsOf.mono _ _ _
   | exact impl_distancesTo.mono _ _ _ _
   | exact LeO.none _
   | refine LeO.ite ?_ ?_
   | refine LeO.bind ?_ (fun _ => ?_)
theorem impl_cycleFrom.mono : ∀ a0 a1 k, LeO (impl_cycleFrom.f k a0 a1) (impl_cycleFrom.f (k + 1) a0 a1) := by
 intro a0 a1 k
 obtain ⟨ih0, ih1⟩ := impl_cycleFrom.mono_l k
 unfold impl_cycleFrom.f
 repeat' first
   | (with_reducible exact ih0 _ _ _ _ _)
   | (with_reducible exact ih1 _ _ _ _ _ _ _ _ _)
   | (with_reducible exact impl_SuccessorsOf.mono _ _ _)
   | (with_reducible exact impl_distancesTo.mono _ _ _ _)
   | (with_reducible exact LeO.refl _)
   | (with_reducible exact LeO.none _)
   | (with_reducible refine LeO.ite ?_ ?_)
   | (with_reducible refine LeO.bind ?_ (fun _ => ?_))
   | exact ih0 _ _ _ _ _
   | exact ih1 _ _ _ _ _ _ _ _ _
   | exact impl_SuccessorsOf.mono _ _ _
   | exact impl_distancesTo.mono _ _ _ _
   | exact LeO.none _
   | refine LeO.ite ?_ ?_
   | refine LeO.bind ?_ (fun _ => ?_)
set_option maxHeartbeats 8000000 in
set_option maxRecDepth 100000 in
theorem impl_cycleFrom.callsN (k : Nat) (A0 : Option Addr) (c0 : Nat) (l0 : List (S44)) (a1 : Int) (r : List Int) (w : World) (hr0 : Kd.C k44 w A0 l0.length l0) (hc0 : l0.length ≤ c0) (h : impl_cycleFrom.f k l0 a1 = some r) :
  Calls Try.prog 45 #[.slice A0 l0.length c0, .int .i64 a1] w fun e w' => ∃ v0_ : Value, e = .returned (v0_) ∧ Kd.R (Kd.int .i64) 3 w' w.heap.size (fun _ => True) v0_ r ∧ Below w.heap.size w w' ∧ (r = [] → v0_ = .slice none 0 0) := by
 have HR0 := Aside0.mk hr0
 have HC0 := Aside0.mk hc0
 clear hr0 hc0
 have HB := Aside0.mk (Below.refl w.heap.size w)
 have H : ((impl_distancesTo.f k l0 a1 a1).bind fun t154 => (impl_cycleFrom.l0 k l0 a1 t154 (([] : List Int)) a1)) = some r := h
 clear h
 replace H := Option.bind_eq_some_iff.mp H
 obtain ⟨t154, A30, H⟩ := H
 try dsimp only at H
 have A3 := Aside0.mk A30
 clear A30
 obtain ⟨y157, hy157⟩ : ∃ y_ : List Int, y_ = (([] : List Int)) := ⟨_, rfl⟩
 replace H : (impl_cycleFrom.l0 k l0 a1 t154 y157 a1) = some r := by first | (rw [hy157]; with_reducible exact H) | (have H2_ := (Option.bind_some _ _).symm.trans H; rw [hy157]; with_reducible exact H2_) | (have H2_ := (Option.bind_some _ _).symm.trans H; with_reducible exact H2_) | with_reducible exact H | (rw [hy157]; exact H) | exact H
 have Ny157 := Aside0.mk hy157
 clear hy157
 have H' := Aside0.mk H
 clear H
 go_enter Try.func45, Try.ntmps45
 go_wp2_with (first | (go_at_call 35; (with_reducible refine (impl_distancesTo.calls k _ _ l0 a1 a1 t154 _ ?side1 HC0.out A3.out).mono ?_); (case side1 => repeat (first | exact HR0.out | (with_reducible refine Kd.C_alloc ?_ _) | (with_reducible refine Kd.C_drewN ?_ _) | (with_reducible refine Kd.C_drew ?_))); rintro e w4 ⟨v155, rfl, ho0, hb⟩; have HO156 := Aside0.mk (Kd.R_lower ho0 (bz_ HB.out)); replace HB := Aside0.mk (bs_ HB.out hb); (try clear hb); (try clear ho0)) | ((with_reducible refine gate_dst (N := 15) rfl ?_); refine Kd.R_lit (Kd.int .i64) _ 3 ?hg (N := 15) ?hd (xs := ([] : List Int)) (inner := []) (ok := fun _ => True) (okp := fun _ => True) ?hr ?hp (fun _ hk => hk) trivial (Below.refl _ _) (Nat.le_refl _) (by simp) ?_; (case hd => rfl); (case hg => rfl); (case hr => first | (go_simp; done) | (go_simp; rfl)); (case hp => exact (Reps.none _ _)); intro v158 w5 ho6 hb hg_ hnew_; clear hg_ hnew_; (first | rw [← Ny157.out] at ho6 | (simp only [Int.reduceToNat] at ho6; rw [← Ny157.out] at ho6)); have HO159 := Aside0.mk (Kd.R_lower (Kd.R_new' ho6 (rl_ HO156.out)) (bz_ HB.out)); replace HO156 := Aside0.mk (Kd.R_elder' (ra_ HO156.out) (Kd.R_base ho6) hb); replace HB := Aside0.mk (bs_ HB.out hb); clear hb ho6))
 repeat (go_quiet (first | (go_at_call 35; (with_reducible refine (impl_distancesTo.calls k _ _ l0 a1 a1 t154 _ ?side1 HC0.out A3.out).mono ?_); (case side1 => repeat (first | exact HR0.out | (with_reducible refine Kd.C_alloc ?_ _) | (with_reducible refine Kd.C_drewN ?_ _) | (with_reducible refine Kd.C_drew ?_))); rintro e w4 ⟨v155, rfl, ho0, hb⟩; have HO156 := Aside0.mk (Kd.R_lower ho0 (bz_ HB.out)); replace HB := Aside0.mk (bs_ HB.out hb); (try clear hb); (try clear ho0)) | ((with_reducible refine gate_dst (N := 15) rfl ?_); refine Kd.R_lit (Kd.int .i64) _ 3 ?hg (N := 15) ?hd (xs := ([] : List Int)) (inner := []) (ok := fun _ => True) (okp := fun _ => True) ?hr ?hp (fun _ hk => hk) trivial (Below.refl _ _) (Nat.le_refl _) (by simp) ?_; (case hd => rfl); (case hg => rfl); (case hr => first | (go_simp; done) | (go_simp; rfl)); (case hp => exact (Reps.none _ _)); intro v158 w5 ho6 hb hg_ hnew_; clear hg_ hnew_; (first | rw [← Ny157.out] at ho6 | (simp only [Int.reduceToNat] at ho6; rw [← Ny157.out] at ho6)); have HO159 := Aside0.mk (Kd.R_lower (Kd.R_new' ho6 (rl_ HO156.out)) (bz_ HB.out)); replace HO156 := Aside0.mk (Kd.R_elder' (ra_ HO156.out) (Kd.R_base ho6) hb); replace HB := Aside0.mk (bs_ HB.out hb); clear hb ho6)); try go_wp2_with (first | (go_at_call 35; (with_reducible refine (impl_distancesTo.calls k _ _ l0 a1 a1 t154 _ ?side1 HC0.out A3.out).mono ?_); (case side1 => repeat (first | exact HR0.out | (with_reducible refine Kd.C_alloc ?_ _) | (with_reducible refine Kd.C_drewN ?_ _) | (with_reducible refine Kd.C_drew ?_))); rintro e w4 ⟨v155, rfl, ho0, hb⟩; have HO156 := Aside0.mk (Kd.R_lower ho0 (bz_ HB.out)); replace HB := Aside0.mk (bs_ HB.out hb); (try clear hb); (try clear ho0)) | ((with_reducible refine gate_dst (N := 15) rfl ?_); refine Kd.R_lit (Kd.int .i64) _ 3 ?hg (N := 15) ?hd (xs := ([] : List Int)) (inner := []) (ok := fun _ => True) (okp := fun _ => True) ?hr ?hp (fun _ hk => hk) trivial (Below.refl _ _) (Nat.le_refl _) (by simp) ?_; (case hd => rfl); (case hg => rfl); (case hr => first | (go_simp; done) | (go_simp; rfl)); (case hp => exact (Reps.none _ _)); intro v158 w5 ho6 hb hg_ hnew_; clear hg_ hnew_; (first | rw [← Ny157.out] at ho6 | (simp only [Int.reduceToNat] at ho6; rw [← Ny157.out] at ho6)); have HO159 := Aside0.mk (Kd.R_lower (Kd.R_new' ho6 (rl_ HO156.out)) (bz_ HB.out)); replace HO156 := Aside0.mk (Kd.R_elder' (ra_ HO156.out) (Kd.R_base ho6) hb); replace HB := Aside0.mk (bs_ HB.out hb); clear hb ho6)))
 go_loopg [6, 7] k (fun kq v6 v7 w' => ∃ (x6_1 : List Int) (x7_1 : Int), v7 = .int .i64 x7_1 ∧ Aside0 (impl_cycleFrom.l0 kq l0 a1 t154 x6_1 x7_1 = some r) ∧ Aside0 (kq ≤ k) ∧ Aside0 (Kd.R (Kd.int .i64) 3 w' w.heap.size (fun k_ => some k_ ≠ (v6 : Value).ownBlock) v155 t154) ∧ Aside0 (Kd.R (Kd.int .i64) 3 w' w.heap.size (fun k_ => some k_ ≠ (v155 : Value).ownBlock) v6 x6_1) ∧ Aside0 (Below w.heap.size w w'))
 case atStart => exact ⟨(y157), (a1), ef_, H', ⟨Nat.le_refl _⟩, ⟨by (with_reducible repeat (first | apply Kd.R_alloc | apply Kd.R_drewN | apply Kd.R_drew)); exact Kd.R_mono HO156.out (fun _ hk => hk.2)⟩, ⟨by (with_reducible repeat (first | apply Kd.R_alloc | apply Kd.R_drewN | apply Kd.R_drew)); exact Kd.R_mono HO159.out (fun _ hk => hk.2)⟩, ⟨bb_ HB.out⟩⟩
 case round =>
  clear H'
  try clear p2
  try clear c4
  obtain ⟨x6_1, x7_1, rfl, HA, HK1, HO_5, HO_6, HB⟩ := hrel
  cases gk with
  | zero => exact absurd HA.out (by simp [impl_cycleFrom.l0])
  | succ k1 =>
   have H := HA.out
   clear HA
   simp only [impl_cycleFrom.l0] at H
   replace H := Option.bind_eq_some_iff.mp H
   obtain ⟨t160, A70, H⟩ := H
   try dsimp only at H
   have A7 := Aside0.mk A70
   clear A70
   have H' := Aside0.mk H
   clear H
   go_wp2_with (first | (go_at_call 36; (with_reducible refine (impl_SuccessorsOf.calls k1 _ _ l0 x7_1 t160 _ ?side1 HC0.out A7.out).mono ?_); (case side1 => exact cb_ HR0.out HB.out); rintro e w8 ⟨v161, rfl, ho0, hb⟩; have HO162 := Aside0.mk (Kd.R_lower (Kd.R_new' (Kd.R_new' ho0 (rl_ HO_5.out)) (rl_ HO_6.out)) (bz_ HB.out)); replace HO_5 := Aside0.mk (Kd.R_elder' (ra_ HO_5.out) (Kd.R_base ho0) hb); replace HO_6 := Aside0.mk (Kd.R_elder' (ra_ HO_6.out) (Kd.R_base ho0) hb); replace HB := Aside0.mk (bs_ HB.out hb); (try clear hb); (try clear ho0); obtain ⟨Ao9, co9, eo9⟩ := Kd.R_slice HO162.out; subst eo9))
   repeat (go_quiet (first | (go_at_call 36; (with_reducible refine (impl_SuccessorsOf.calls k1 _ _ l0 x7_1 t160 _ ?side1 HC0.out A7.out).mono ?_); (case side1 => exact cb_ HR0.out HB.out); rintro e w8 ⟨v161, rfl, ho0, hb⟩; have HO162 := Aside0.mk (Kd.R_lower (Kd.R_new' (Kd.R_new' ho0 (rl_ HO_5.out)) (rl_ HO_6.out)) (bz_ HB.out)); replace HO_5 := Aside0.mk (Kd.R_elder' (ra_ HO_5.out) (Kd.R_base ho0) hb); replace HO_6 := Aside0.mk (Kd.R_elder' (ra_ HO_6.out) (Kd.R_base ho0) hb); replace HB := Aside0.mk (bs_ HB.out hb); (try clear hb); (try clear ho0); obtain ⟨Ao9, co9, eo9⟩ := Kd.R_slice HO162.out; subst eo9)); try go_wp2_with (first | (go_at_call 36; (with_reducible refine (impl_SuccessorsOf.calls k1 _ _ l0 x7_1 t160 _ ?side1 HC0.out A7.out).mono ?_); (case side1 => exact cb_ HR0.out HB.out); rintro e w8 ⟨v161, rfl, ho0, hb⟩; have HO162 := Aside0.mk (Kd.R_lower (Kd.R_new' (Kd.R_new' ho0 (rl_ HO_5.out)) (rl_ HO_6.out)) (bz_ HB.out)); replace HO_5 := Aside0.mk (Kd.R_elder' (ra_ HO_5.out) (Kd.R_base ho0) hb); replace HO_6 := Aside0.mk (Kd.R_elder' (ra_ HO_6.out) (Kd.R_base ho0) hb); replace HB := Aside0.mk (bs_ HB.out hb); (try clear hb); (try clear ho0); obtain ⟨Ao9, co9, eo9⟩ := Kd.R_slice HO162.out; subst eo9)))
   go_loopg [8, 21] k1 (fun kq v8 v21 w' => ∃ (x8_2 : Int) (x21_2 : Int), v8 = .int .i64 x8_2 ∧ v21 = .int .i64 x21_2 ∧ Aside0 (impl_cycleFrom.l1 kq l0 a1 t154 x6_1 x7_1 x8_2 t160 (t160.length : Int) x21_2 = some r) ∧ Aside0 (kq ≤ k1) ∧ Aside0 (Kd.R (Kd.int .i64) 3 w' w.heap.size (fun k_ => some k_ ≠ (u6 : Value).ownBlock ∧ some k_ ≠ ((.slice Ao9 t160.length co9) : Value).ownBlock) v155 t154) ∧ Aside0 (Kd.R (Kd.int .i64) 3 w' w.heap.size (fun k_ => some k_ ≠ (v155 : Value).ownBlock ∧ some k_ ≠ ((.slice Ao9 t160.length co9) : Value).ownBlock) u6 x6_1) ∧ Aside0 (Kd.R (Kd.int .i64) 3 w' w.heap.size (fun k_ => some k_ ≠ (v155 : Value).ownBlock ∧ some k_ ≠ (u6 : Value).ownBlock) (.slice Ao9 t160.length co9) t160) ∧ Aside0 (Below w.heap.size w w'))
   case atStart => exact ⟨((-1)), (0), ef_, ef_, H', ⟨Nat.le_refl _⟩, ⟨by (with_reducible repeat (first | apply Kd.R_alloc | apply Kd.R_drewN | apply Kd.R_drew)); exact HO_5.out⟩, ⟨by (with_reducible repeat (first | apply Kd.R_alloc | apply Kd.R_drewN | apply Kd.R_drew)); exact HO_6.out⟩, ⟨by (with_reducible repeat (first | apply Kd.R_alloc | apply Kd.R_drewN | apply Kd.R_drew)); exact Kd.R_mono HO162.out (fun _ hk => ⟨hk.1.2, hk.2⟩)⟩, ⟨bb_ HB.out⟩⟩
   case round =>
    clear H'
    try clear p2
    try clear c4
    try clear p2
    obtain ⟨x8_2, x21_2, rfl, rfl, HA, HK2, HO_5, HO_6, HO_19, HB⟩ := hrel
    cases gk with
    | zero => exact absurd HA.out (by simp [impl_cycleFrom.l1])
    | succ k2 =>
     have H := HA.out
     clear HA
     simp only [impl_cycleFrom.l1] at H
     by_cases c10 : x21_2 < (t160.length : Int)
     ·rw [if_pos c10] at H
      have c10b0 : decide (x21_2 < (t160.length : Int)) = true := decide_eq_true c10
      clear c10
      by_cases c11 : 0 ≤ x21_2
      ·rw [if_pos c11] at H
       have c11b0 : decide (0 ≤ x21_2) = true := decide_eq_true c11
       clear c11
       by_cases c12 : x21_2 < (t160.length : Int)
       ·rw [if_pos c12] at H
        have c12b0 : decide (x21_2 < (t160.length : Int)) = true := decide_eq_true c12
        clear c12
        by_cases c13 : (rd t160 x21_2) ≥ a1
        ·rw [if_pos c13] at H
         have c13b0 : decide (a1 ≤ (rd t160 x21_2)) = true := decide_eq_true c13
         clear c13
         by_cases c14 : 0 ≤ (rd t160 x21_2)
         ·rw [if_pos c14] at H
          have c14b0 : decide (0 ≤ (rd t160 x21_2)) = true := decide_eq_true c14
          clear c14
          by_cases c15 : (rd t160 x21_2) < (t154.length : Int)
          ·rw [if_pos c15] at H
           have c15b0 : decide ((rd t160 x21_2) < (t154.length : Int)) = true := decide_eq_true c15
           clear c15
           by_cases c16 : (rd t154 (rd t160 x21_2)) ≥ 0
           ·rw [if_pos c16] at H
            have c16b0 : decide (0 ≤ (rd t154 (rd t160 x21_2))) = true := decide_eq_true c16
            clear c16
            by_cases c17 : x8_2 < 0
            ·rw [if_pos c17] at H
             have c17b0 : decide (x8_2 < 0) = true := decide_eq_true c17
             clear c17
             have H' := Aside0.mk H
             clear H
             have p163 : 0 ≤ (x21_2 : Int) := of_decide_eq_true dg_
             have q163 : x21_2 < (t160.length : Int) := of_decide_eq_true dg_
             obtain ⟨ad163, e163, hx163_0⟩ := Kd.at_int (Kd.R_reads' HO_19.out).2.2 x21_2 p163 q163
             cases e163
             replace p163 := eq_true p163
             replace q163 := eq_true q163
             obtain ⟨Ao18, co18, eo18⟩ := Kd.R_slice HO_5.out
             subst eo18
             have p164 : 0 ≤ ((rd t160 x21_2) : Int) := of_decide_eq_true dg_
             have q164 : (rd t160 x21_2) < (t154.length : Int) := of_decide_eq_true dg_
             obtain ⟨ad164, e164, hx164_0⟩ := Kd.at_int (Kd.R_reads' HO_5.out).2.2 (rd t160 x21_2) p164 q164
             cases e164
             replace p164 := eq_true p164
             replace q164 := eq_true q164
             go_wp2
             repeat (go_quiet (fail); try go_wp2)
             go_roundg k2
             case measure => have := HK1.out; have := HK2.out; omega
             case rel => exact ⟨(rd t160 x21_2), (wrap64 (x21_2 + 1)), ef_, ef_, H', ⟨by have := HK1.out; have := HK2.out; omega⟩, ⟨by (with_reducible repeat (first | apply Kd.R_alloc | apply Kd.R_drewN | apply Kd.R_drew)); exact HO_5.out⟩, ⟨by (with_reducible repeat (first | apply Kd.R_alloc | apply Kd.R_drewN | apply Kd.R_drew)); exact HO_6.out⟩, ⟨by (with_reducible repeat (first | apply Kd.R_alloc | apply Kd.R_drewN | apply Kd.R_drew)); exact HO_19.out⟩, ⟨bb_ HB.out⟩⟩
            ·rw [if_neg c17] at H
             have c17b0 : decide (x8_2 < 0) = false := decide_eq_false c17
             clear c17
             by_cases c19 : 0 ≤ x8_2
             ·rw [if_pos c19] at H
              have c19b0 : decide (0 ≤ x8_2) = true := decide_eq_true c19
              clear c19
              by_cases c20 : x8_2 < (t154.length : Int)
              ·rw [if_pos c20] at H
               have c20b0 : decide (x8_2 < (t154.length : Int)) = true := decide_eq_true c20
               clear c20
               by_cases c21 : (rd t154 (rd t160 x21_2)) < (rd t154 x8_2)
               ·rw [if_pos c21] at H
                have c21b0 : decide ((rd t154 (rd t160 x21_2)) < (rd t154 x8_2)) = true := decide_eq_true c21
                clear c21
                have H' := Aside0.mk H
                clear H
                have p163 : 0 ≤ (x21_2 : Int) := of_decide_eq_true dg_
                have q163 : x21_2 < (t160.length : Int) := of_decide_eq_true dg_
                obtain ⟨ad163, e163, hx163_0⟩ := Kd.at_int (Kd.R_reads' HO_19.out).2.2 x21_2 p163 q163
                cases e163
                replace p163 := eq_true p163
                replace q163 := eq_true q163
                obtain ⟨Ao22, co22, eo22⟩ := Kd.R_slice HO_5.out
                subst eo22
                have p164 : 0 ≤ ((rd t160 x21_2) : Int) := of_decide_eq_true dg_
                have q164 : (rd t160 x21_2) < (t154.length : Int) := of_decide_eq_true dg_
                obtain ⟨ad164, e164, hx164_0⟩ := Kd.at_int (Kd.R_reads' HO_5.out).2.2 (rd t160 x21_2) p164 q164
                cases e164
                replace p164 := eq_true p164
                replace q164 := eq_true q164
                have p165 : 0 ≤ ((rd t160 x21_2) : Int) := of_decide_eq_true dg_
                have q165 : (rd t160 x21_2) < (t154.length : Int) := of_decide_eq_true dg_
                obtain ⟨ad165, e165, hx165_0⟩ := Kd.at_int (Kd.R_reads' HO_5.out).2.2 (rd t160 x21_2) p165 q165
                obtain rfl : ad164 = ad165 := (by injection e165)
                replace p165 := eq_true p165
                replace q165 := eq_true q165
                have p166 : 0 ≤ (x8_2 : Int) := of_decide_eq_true dg_
                have q166 : x8_2 < (t154.length : Int) := of_decide_eq_true dg_
                obtain ⟨ad166, e166, hx166_0⟩ := Kd.at_int (Kd.R_reads' HO_5.out).2.2 x8_2 p166 q166
                obtain rfl : ad164 = ad166 := (by injection e166)
                replace p166 := eq_true p166
                replace q166 := eq_true q166
                go_wp2
                repeat (go_quiet (fail); try go_wp2)
                go_roundg k2
                case measure => have := HK1.out; have := HK2.out; omega
                case rel => exact ⟨(rd t160 x21_2), (wrap64 (x21_2 + 1)), ef_, ef_, H', ⟨by have := HK1.out; have := HK2.out; omega⟩, ⟨by (with_reducible repeat (first | apply Kd.R_alloc | apply Kd.R_drewN | apply Kd.R_drew)); exact HO_5.out⟩, ⟨by (with_reducible repeat (first | apply Kd.R_alloc | apply Kd.R_drewN | apply Kd.R_drew)); exact HO_6.out⟩, ⟨by (with_reducible repeat (first | apply Kd.R_alloc | apply Kd.R_drewN | apply Kd.R_drew)); exact HO_19.out⟩, ⟨bb_ HB.out⟩⟩
               ·rw [if_neg c21] at H
                have c21b0 : decide ((rd t154 (rd t160 x21_2)) < (rd t154 x8_2)) = false := decide_eq_false c21
                clear c21
                have H' := Aside0.mk H
                clear H
                have p163 : 0 ≤ (x21_2 : Int) := of_decide_eq_true dg_
                have q163 : x21_2 < (t160.length : Int) := of_decide_eq_true dg_
                obtain ⟨ad163, e163, hx163_0⟩ := Kd.at_int (Kd.R_reads' HO_19.out).2.2 x21_2 p163 q163
                cases e163
                replace p163 := eq_true p163
                replace q163 := eq_true q163
                obtain ⟨Ao23, co23, eo23⟩ := Kd.R_slice HO_5.out
                subst eo23
                have p164 : 0 ≤ ((rd t160 x21_2) : Int) := of_decide_eq_true dg_
                have q164 : (rd t160 x21_2) < (t154.length : Int) := of_decide_eq_true dg_
                obtain ⟨ad164, e164, hx164_0⟩ := Kd.at_int (Kd.R_reads' HO_5.out).2.2 (rd t160 x21_2) p164 q164
                cases e164
                replace p164 := eq_true p164
                replace q164 := eq_true q164
                have p165 : 0 ≤ ((rd t160 x21_2) : Int) := of_decide_eq_true dg_
                have q165 : (rd t160 x21_2) < (t154.length : Int) := of_decide_eq_true dg_
                obtain ⟨ad165, e165, hx165_0⟩ := Kd.at_int (Kd.R_reads' HO_5.out).2.2 (rd t160 x21_2) p165 q165
                obtain rfl : ad164 = ad165 := (by injection e165)
                replace p165 := eq_true p165
                replace q165 := eq_true q165
                have p166 : 0 ≤ (x8_2 : Int) := of_decide_eq_true dg_
                have q166 : x8_2 < (t154.length : Int) := of_decide_eq_true dg_
                obtain ⟨ad166, e166, hx166_0⟩ := Kd.at_int (Kd.R_reads' HO_5.out).2.2 x8_2 p166 q166
                obtain rfl : ad164 = ad166 := (by injection e166)
                replace p166 := eq_true p166
                replace q166 := eq_true q166
                go_wp2
                repeat (go_quiet (fail); try go_wp2)
                go_roundg k2
                case measure => have := HK1.out; have := HK2.out; omega
                case rel => exact ⟨(x8_2), (wrap64 (x21_2 + 1)), ef_, ef_, H', ⟨by have := HK1.out; have := HK2.out; omega⟩, ⟨by (with_reducible repeat (first | apply Kd.R_alloc | apply Kd.R_drewN | apply Kd.R_drew)); exact HO_5.out⟩, ⟨by (with_reducible repeat (first | apply Kd.R_alloc | apply Kd.R_drewN | apply Kd.R_drew)); exact HO_6.out⟩, ⟨by (with_reducible repeat (first | apply Kd.R_alloc | apply Kd.R_drewN | apply Kd.R_drew)); exact HO_19.out⟩, ⟨bb_ HB.out⟩⟩
              ·rw [if_neg c20] at H
               exact absurd H (by simp)
             ·rw [if_neg c19] at H
              exact absurd H (by simp)
           ·rw [if_neg c16] at H
            have c16b0 : decide (0 ≤ (rd t154 (rd t160 x21_2))) = false := decide_eq_false c16
            clear c16
            have H' := Aside0.mk H
            clear H
            have p163 : 0 ≤ (x21_2 : Int) := of_decide_eq_true dg_
            have q163 : x21_2 < (t160.length : Int) := of_decide_eq_true dg_
            obtain ⟨ad163, e163, hx163_0⟩ := Kd.at_int (Kd.R_reads' HO_19.out).2.2 x21_2 p163 q163
            cases e163
            replace p163 := eq_true p163
            replace q163 := eq_true q163
            obtain ⟨Ao24, co24, eo24⟩ := Kd.R_slice HO_5.out
            subst eo24
            have p164 : 0 ≤ ((rd t160 x21_2) : Int) := of_decide_eq_true dg_
            have q164 : (rd t160 x21_2) < (t154.length : Int) := of_decide_eq_true dg_
            obtain ⟨ad164, e164, hx164_0⟩ := Kd.at_int (Kd.R_reads' HO_5.out).2.2 (rd t160 x21_2) p164 q164
            cases e164
            replace p164 := eq_true p164
            replace q164 := eq_true q164
            go_wp2
            repeat (go_quiet (fail); try go_wp2)
            go_roundg k2
            case measure => have := HK1.out; have := HK2.out; omega
            case rel => exact ⟨(x8_2), (wrap64 (x21_2 + 1)), ef_, ef_, H', ⟨by have := HK1.out; have := HK2.out; omega⟩, ⟨by (with_reducible repeat (first | apply Kd.R_alloc | apply Kd.R_drewN | apply Kd.R_drew)); exact HO_5.out⟩, ⟨by (with_reducible repeat (first | apply Kd.R_alloc | apply Kd.R_drewN | apply Kd.R_drew)); exact HO_6.out⟩, ⟨by (with_reducible repeat (first | apply Kd.R_alloc | apply Kd.R_drewN | apply Kd.R_drew)); exact HO_19.out⟩, ⟨bb_ HB.out⟩⟩
          ·rw [if_neg c15] at H
           exact absurd H (by simp)
         ·rw [if_neg c14] at H
          exact absurd H (by simp)
        ·rw [if_neg c13] at H
         have c13b0 : decide (a1 ≤ (rd t160 x21_2)) = false := decide_eq_false c13
         clear c13
         have H' := Aside0.mk H
         clear H
         have p163 : 0 ≤ (x21_2 : Int) := of_decide_eq_true dg_
         have q163 : x21_2 < (t160.length : Int) := of_decide_eq_true dg_
         obtain ⟨ad163, e163, hx163_0⟩ := Kd.at_int (Kd.R_reads' HO_19.out).2.2 x21_2 p163 q163
         cases e163
         replace p163 := eq_true p163
         replace q163 := eq_true q163
         go_wp2
         repeat (go_quiet (fail); try go_wp2)
         go_roundg k2
         case measure => have := HK1.out; have := HK2.out; omega
         case rel => exact ⟨(x8_2), (wrap64 (x21_2 + 1)), ef_, ef_, H', ⟨by have := HK1.out; have := HK2.out; omega⟩, ⟨by (with_reducible repeat (first | apply Kd.R_alloc | apply Kd.R_drewN | apply Kd.R_drew)); exact HO_5.out⟩, ⟨by (with_reducible repeat (first | apply Kd.R_alloc | apply Kd.R_drewN | apply Kd.R_drew)); exact HO_6.out⟩, ⟨by (with_reducible repeat (first | apply Kd.R_alloc | apply Kd.R_drewN | apply Kd.R_drew)); exact HO_19.out⟩, ⟨bb_ HB.out⟩⟩
       ·rw [if_neg c12] at H
        exact absurd H (by simp)
      ·rw [if_neg c11] at H
       exact absurd H (by simp)
     ·rw [if_neg c10] at H
      have c10b0 : decide (x21_2 < (t160.length : Int)) = false := decide_eq_false c10
      clear c10
      by_cases c25 : x8_2 < 0
      ·rw [if_pos c25] at H
       have c25b0 : decide (x8_2 < 0) = true := decide_eq_true c25
       clear c25
       obtain rfl := Option.some.inj H
       go_wp2
       repeat (go_quiet (fail); try go_wp2)
       go_ret
       exact ⟨_, fin_, by first | exact Kd.R_nil _ _ _ _ _ | exact Kd.N_nil _ _ _ _ _ | exact Kd.V_nil _ _ _ _ _ | exact Kd.Q_nil _ _ _ _ _ | exact Kd.S_nil _ _ _ _ _, bb_ HB.out, by first | rfl | (intro e_; first | rfl | (exfalso; simp [Ny157.out] at e_; done) | (exfalso; simp [Ny167.out] at e_; done))⟩
      ·rw [if_neg c25] at H
       have c25b0 : decide (x8_2 < 0) = false := decide_eq_false c25
       clear c25
       by_cases c26 : x6_1.length < 17592186044416
       ·rw [if_pos c26] at H
        have LMc26 := Aside0.mk c26
        clear c26
        obtain ⟨y167, hy167⟩ : ∃ y_ : List Int, y_ = (x6_1 ++ [x7_1]) := ⟨_, rfl⟩
        replace H : (if x8_2 = a1 then (some y167) else (impl_cycleFrom.l0 k2 l0 a1 t154 y167 x8_2)) = some r := by first | (rw [hy167]; with_reducible exact H) | (have H2_ := (Option.bind_some _ _).symm.trans H; rw [hy167]; with_reducible exact H2_) | (have H2_ := (Option.bind_some _ _).symm.trans H; with_reducible exact H2_) | with_reducible exact H | (rw [hy167]; exact H) | exact H
        have Ny167 := Aside0.mk hy167
        clear hy167
        by_cases c27 : x8_2 = a1
        ·rw [if_pos c27] at H
         have c27b0 : (x8_2 == a1) = true := beq_iff_eq.mpr c27
         have c27b1 : (x8_2 != a1) = false := bne_eq_false_iff_eq.mpr c27
         clear c27
         obtain rfl := Option.some.inj H
         go_wp2_with (first | ((with_reducible refine gate_builtin (b := .append) (xs := #[.tmp 54, .tmp 56]) rfl ?_); at_builtin; refine Kd.R_append (Kd.int .i64) (w0 := w) w.heap.size rfl (.tmp 54) (.tmp 56) 26 3 (.int .i64 0) 8 rfl Try.underlying26 info3 rfl (by decide) (by omega) u6 x6_1 x7_1 [.int .i64 x7_1] (fun k_ => some k_ ≠ (v155 : Value).ownBlock ∧ some k_ ≠ (.slice Ao9 t160.length co9 : Value).ownBlock) (fun _ => False) rfl rfl ?aP (fun _ hk => hk.elim) ?aF ?aO ?aB ?aS ?aL ?_; (case aP => exact rfl); (case aB => exact (by repeat (first | (with_reducible first | exact HB.out | apply below_alloc | apply pw_below_drewN | apply below_drew1) | exact HB.out))); (case aF => exact (fun k_ hk => ⟨Kd.fresh' (rl_ HO_5.out) k_ hk, Kd.fresh' (rl_ HO_19.out) k_ hk⟩)); (case aO => exact (ra_ HO_6.out)); (case aS => exact (bz_ HB.out)); (case aL => have := LMc26.out; omega); intro v168 w28 ho hb hg hat; rw [← Ny167.out] at ho; have n0_ := Aside0.mk (Kd.R_after (ok := (fun k_ => some k_ ≠ (.slice Ao9 t160.length co9 : Value).ownBlock)) (by (with_reducible repeat (first | apply Kd.R_alloc | apply Kd.R_drewN | apply Kd.R_drew)); exact Kd.R_mono HO_5.out (fun _ hk => ⟨hk.2, hk.1⟩)) hg hat); have n1_ := Aside0.mk (Kd.R_after (ok := (fun k_ => some k_ ≠ (v155 : Value).ownBlock)) (ra_ HO_19.out) hg hat); have n2_ := Aside0.mk (hb); have n3_ := Aside0.mk (ho); clear HO_5; clear HO_19; clear HB; clear HO_6; have HO_5 := n0_; have HO_19 := n1_; have HB := n2_; have HO169 := n3_; clear n0_ n1_ n2_ n3_; clear ho hb hg hat))
         repeat (go_quiet (first | ((with_reducible refine gate_builtin (b := .append) (xs := #[.tmp 54, .tmp 56]) rfl ?_); at_builtin; refine Kd.R_append (Kd.int .i64) (w0 := w) w.heap.size rfl (.tmp 54) (.tmp 56) 26 3 (.int .i64 0) 8 rfl Try.underlying26 info3 rfl (by decide) (by omega) u6 x6_1 x7_1 [.int .i64 x7_1] (fun k_ => some k_ ≠ (v155 : Value).ownBlock ∧ some k_ ≠ (.slice Ao9 t160.length co9 : Value).ownBlock) (fun _ => False) rfl rfl ?aP (fun _ hk => hk.elim) ?aF ?aO ?aB ?aS ?aL ?_; (case aP => exact rfl); (case aB => exact (by repeat (first | (with_reducible first | exact HB.out | apply below_alloc | apply pw_below_drewN | apply below_drew1) | exact HB.out))); (case aF => exact (fun k_ hk => ⟨Kd.fresh' (rl_ HO_5.out) k_ hk, Kd.fresh' (rl_ HO_19.out) k_ hk⟩)); (case aO => exact (ra_ HO_6.out)); (case aS => exact (bz_ HB.out)); (case aL => have := LMc26.out; omega); intro v168 w28 ho hb hg hat; rw [← Ny167.out] at ho; have n0_ := Aside0.mk (Kd.R_after (ok := (fun k_ => some k_ ≠ (.slice Ao9 t160.length co9 : Value).ownBlock)) (by (with_reducible repeat (first | apply Kd.R_alloc | apply Kd.R_drewN | apply Kd.R_drew)); exact Kd.R_mono HO_5.out (fun _ hk => ⟨hk.2, hk.1⟩)) hg hat); have n1_ := Aside0.mk (Kd.R_after (ok := (fun k_ => some k_ ≠ (v155 : Value).ownBlock)) (ra_ HO_19.out) hg hat); have n2_ := Aside0.mk (hb); have n3_ := Aside0.mk (ho); clear HO_5; clear HO_19; clear HB; clear HO_6; have HO_5 := n0_; have HO_19 := n1_; have HB := n2_; have HO169 := n3_; clear n0_ n1_ n2_ n3_; clear ho hb hg hat)); try go_wp2_with (first | ((with_reducible refine gate_builtin (b := .append) (xs := #[.tmp 54, .tmp 56]) rfl ?_); at_builtin; refine Kd.R_append (Kd.int .i64) (w0 := w) w.heap.size rfl (.tmp 54) (.tmp 56) 26 3 (.int .i64 0) 8 rfl Try.underlying26 info3 rfl (by decide) (by omega) u6 x6_1 x7_1 [.int .i64 x7_1] (fun k_ => some k_ ≠ (v155 : Value).ownBlock ∧ some k_ ≠ (.slice Ao9 t160.length co9 : Value).ownBlock) (fun _ => False) rfl rfl ?aP (fun _ hk => hk.elim) ?aF ?aO ?aB ?aS ?aL ?_; (case aP => exact rfl); (case aB => exact (by repeat (first | (with_reducible first | exact HB.out | apply below_alloc | apply pw_below_drewN | apply below_drew1) | exact HB.out))); (case aF => exact (fun k_ hk => ⟨Kd.fresh' (rl_ HO_5.out) k_ hk, Kd.fresh' (rl_ HO_19.out) k_ hk⟩)); (case aO => exact (ra_ HO_6.out)); (case aS => exact (bz_ HB.out)); (case aL => have := LMc26.out; omega); intro v168 w28 ho hb hg hat; rw [← Ny167.out] at ho; have n0_ := Aside0.mk (Kd.R_after (ok := (fun k_ => some k_ ≠ (.slice Ao9 t160.length co9 : Value).ownBlock)) (by (with_reducible repeat (first | apply Kd.R_alloc | apply Kd.R_drewN | apply Kd.R_drew)); exact Kd.R_mono HO_5.out (fun _ hk => ⟨hk.2, hk.1⟩)) hg hat); have n1_ := Aside0.mk (Kd.R_after (ok := (fun k_ => some k_ ≠ (v155 : Value).ownBlock)) (ra_ HO_19.out) hg hat); have n2_ := Aside0.mk (hb); have n3_ := Aside0.mk (ho); clear HO_5; clear HO_19; clear HB; clear HO_6; have HO_5 := n0_; have HO_19 := n1_; have HB := n2_; have HO169 := n3_; clear n0_ n1_ n2_ n3_; clear ho hb hg hat)))
         go_ret
         exact ⟨_, fin_, by (with_reducible repeat (first | apply Kd.R_alloc | apply Kd.R_drewN | apply Kd.R_drew)); exact Kd.R_mono HO169.out (fun _ hk => trivial), bb_ HB.out, by first | rfl | (intro e_; first | rfl | (exfalso; simp [Ny157.out] at e_; done) | (exfalso; simp [Ny167.out] at e_; done))⟩
        ·rw [if_neg c27] at H
         have c27b0 : (x8_2 == a1) = false := beq_eq_false_iff_ne.mpr c27
         have c27b1 : (x8_2 != a1) = true := bne_iff_ne.mpr c27
         have H' := Aside0.mk H
         clear H
         go_wp2_with (first | ((with_reducible refine gate_builtin (b := .append) (xs := #[.tmp 54, .tmp 56]) rfl ?_); at_builtin; refine Kd.R_append (Kd.int .i64) (w0 := w) w.heap.size rfl (.tmp 54) (.tmp 56) 26 3 (.int .i64 0) 8 rfl Try.underlying26 info3 rfl (by decide) (by omega) u6 x6_1 x7_1 [.int .i64 x7_1] (fun k_ => some k_ ≠ (v155 : Value).ownBlock ∧ some k_ ≠ (.slice Ao9 t160.length co9 : Value).ownBlock) (fun _ => False) rfl rfl ?aP (fun _ hk => hk.elim) ?aF ?aO ?aB ?aS ?aL ?_; (case aP => exact rfl); (case aB => exact (by repeat (first | (with_reducible first | exact HB.out | apply below_alloc | apply pw_below_drewN | apply below_drew1) | exact HB.out))); (case aF => exact (fun k_ hk => ⟨Kd.fresh' (rl_ HO_5.out) k_ hk, Kd.fresh' (rl_ HO_19.out) k_ hk⟩)); (case aO => exact (ra_ HO_6.out)); (case aS => exact (bz_ HB.out)); (case aL => have := LMc26.out; omega); intro v168 w29 ho hb hg hat; rw [← Ny167.out] at ho; have n0_ := Aside0.mk (Kd.R_after (ok := (fun k_ => some k_ ≠ (.slice Ao9 t160.length co9 : Value).ownBlock)) (by (with_reducible repeat (first | apply Kd.R_alloc | apply Kd.R_drewN | apply Kd.R_drew)); exact Kd.R_mono HO_5.out (fun _ hk => ⟨hk.2, hk.1⟩)) hg hat); have n1_ := Aside0.mk (Kd.R_after (ok := (fun k_ => some k_ ≠ (v155 : Value).ownBlock)) (ra_ HO_19.out) hg hat); have n2_ := Aside0.mk (hb); have n3_ := Aside0.mk (ho); clear HO_5; clear HO_19; clear HB; clear HO_6; have HO_5 := n0_; have HO_19 := n1_; have HB := n2_; have HO169 := n3_; clear n0_ n1_ n2_ n3_; clear ho hb hg hat))
         repeat (go_quiet (first | ((with_reducible refine gate_builtin (b := .append) (xs := #[.tmp 54, .tmp 56]) rfl ?_); at_builtin; refine Kd.R_append (Kd.int .i64) (w0 := w) w.heap.size rfl (.tmp 54) (.tmp 56) 26 3 (.int .i64 0) 8 rfl Try.underlying26 info3 rfl (by decide) (by omega) u6 x6_1 x7_1 [.int .i64 x7_1] (fun k_ => some k_ ≠ (v155 : Value).ownBlock ∧ some k_ ≠ (.slice Ao9 t160.length co9 : Value).ownBlock) (fun _ => False) rfl rfl ?aP (fun _ hk => hk.elim) ?aF ?aO ?aB ?aS ?aL ?_; (case aP => exact rfl); (case aB => exact (by repeat (first | (with_reducible first | exact HB.out | apply below_alloc | apply pw_below_drewN | apply below_drew1) | exact HB.out))); (case aF => exact (fun k_ hk => ⟨Kd.fresh' (rl_ HO_5.out) k_ hk, Kd.fresh' (rl_ HO_19.out) k_ hk⟩)); (case aO => exact (ra_ HO_6.out)); (case aS => exact (bz_ HB.out)); (case aL => have := LMc26.out; omega); intro v168 w29 ho hb hg hat; rw [← Ny167.out] at ho; have n0_ := Aside0.mk (Kd.R_after (ok := (fun k_ => some k_ ≠ (.slice Ao9 t160.length co9 : Value).ownBlock)) (by (with_reducible repeat (first | apply Kd.R_alloc | apply Kd.R_drewN | apply Kd.R_drew)); exact Kd.R_mono HO_5.out (fun _ hk => ⟨hk.2, hk.1⟩)) hg hat); have n1_ := Aside0.mk (Kd.R_after (ok := (fun k_ => some k_ ≠ (v155 : Value).ownBlock)) (ra_ HO_19.out) hg hat); have n2_ := Aside0.mk (hb); have n3_ := Aside0.mk (ho); clear HO_5; clear HO_19; clear HB; clear HO_6; have HO_5 := n0_; have HO_19 := n1_; have HB := n2_; have HO169 := n3_; clear n0_ n1_ n2_ n3_; clear ho hb hg hat)); try go_wp2_with (first | ((with_reducible refine gate_builtin (b := .append) (xs := #[.tmp 54, .tmp 56]) rfl ?_); at_builtin; refine Kd.R_append (Kd.int .i64) (w0 := w) w.heap.size rfl (.tmp 54) (.tmp 56) 26 3 (.int .i64 0) 8 rfl Try.underlying26 info3 rfl (by decide) (by omega) u6 x6_1 x7_1 [.int .i64 x7_1] (fun k_ => some k_ ≠ (v155 : Value).ownBlock ∧ some k_ ≠ (.slice Ao9 t160.length co9 : Value).ownBlock) (fun _ => False) rfl rfl ?aP (fun _ hk => hk.elim) ?aF ?aO ?aB ?aS ?aL ?_; (case aP => exact rfl); (case aB => exact (by repeat (first | (with_reducible first | exact HB.out | apply below_alloc | apply pw_below_drewN | apply below_drew1) | exact HB.out))); (case aF => exact (fun k_ hk => ⟨Kd.fresh' (rl_ HO_5.out) k_ hk, Kd.fresh' (rl_ HO_19.out) k_ hk⟩)); (case aO => exact (ra_ HO_6.out)); (case aS => exact (bz_ HB.out)); (case aL => have := LMc26.out; omega); intro v168 w29 ho hb hg hat; rw [← Ny167.out] at ho; have n0_ := Aside0.mk (Kd.R_after (ok := (fun k_ => some k_ ≠ (.slice Ao9 t160.length co9 : Value).ownBlock)) (by (with_reducible repeat (first | apply Kd.R_alloc | apply Kd.R_drewN | apply Kd.R_drew)); exact Kd.R_mono HO_5.out (fun _ hk => ⟨hk.2, hk.1⟩)) hg hat); have n1_ := Aside0.mk (Kd.R_after (ok := (fun k_ => some k_ ≠ (v155 : Value).ownBlock)) (ra_ HO_19.out) hg hat); have n2_ := Aside0.mk (hb); have n3_ := Aside0.mk (ho); clear HO_5; clear HO_19; clear HB; clear HO_6; have HO_5 := n0_; have HO_19 := n1_; have HB := n2_; have HO169 := n3_; clear n0_ n1_ n2_ n3_; clear ho hb hg hat)))
         go_roundg k2
         case measure => have := HK1.out; have := HK2.out; omega
         case rel => exact ⟨(y167), (x8_2), ef_, H', ⟨by have := HK1.out; have := HK2.out; omega⟩, ⟨by (with_reducible repeat (first | apply Kd.R_alloc | apply Kd.R_drewN | apply Kd.R_drew)); exact Kd.R_mono HO_5.out (fun _ hk => hk.2)⟩, ⟨by (with_reducible repeat (first | apply Kd.R_alloc | apply Kd.R_drewN | apply Kd.R_drew)); exact Kd.R_mono HO169.out (fun _ hk => hk.1)⟩, ⟨bb_ HB.out⟩⟩
       ·rw [if_neg c26] at H
        exact absurd H (by simp)

/-! ### impl_ShortestCycle: function 21 -/
def impl_ShortestCycle.l0 : Nat → List (S44) → List Int → Int → Option (List Int)
 | 0, _, _, _ => none
 | k + 1, l, out, x => if x < 128 then ((impl_cycleFrom.f k l x).bind fun own => (if own = [] then (impl_ShortestCycle.l0 k l out (wrap64 (x + 1))) else (if out = [] then (impl_ShortestCycle.l0 k l own (wrap64 (x + 1))) else (if (own.length : Int) < (out.length : Int) then (impl_ShortestCycle.l0 k l own (wrap64 (x + 1))) else (impl_ShortestCycle.l0 k l out (wrap64 (x + 1))))))) else (some out)
def impl_ShortestCycle.f (k : Nat) (l : List (S44)) : Option (List Int) := (impl_DependsOk.f k l).bind fun b => (if b = true then (impl_ShortestCycle.l0 k l [] 0) else (some []))
theorem impl_ShortestCycle.mono_l : ∀ k l out x, LeO (impl_ShortestCycle.l0 k l out x) (impl_ShortestCycle.l0 (k + 1) l out x)
 | 0, _, _, _ => fun r h => by simp [impl_ShortestCycle.l0] at h
 | k + 1, l, out, x => by
  have ih := impl_ShortestCycle.mono_l k
  unfold impl_ShortestCycle.l0
  exact LeO.ite (LeO.bind (impl_cycleFrom.mono _ _ _) (fun _ => LeO.ite (ih _ _ _) (LeO.ite (ih _ _ _) (LeO.ite (ih _ _ _) (ih _ _ _))))) (LeO.refl _)
theorem impl_ShortestCycle.mono (l : List (S44)) : ∀ k, LeO (impl_ShortestCycle.f k l) (impl_ShortestCycle.f (k + 1) l) := by
 intro k
 unfold impl_ShortestCycle.f
 exact LeO.bind (impl_DependsOk.mono _ _) (fun _ => LeO.ite (impl_ShortestCycle.mono_l _ _ _ _) (LeO.refl _))
theorem eq_nil_slice (W : World) (a : Option Addr) (n c : Nat) : (binOp .eql 26 (.slice a n c) (.slice none 0 0)).run Try.prog W = .ok (.bool a.isNone) W := Lib.run_eql_slice_nil W 26 _ a n c 0 0 Try.underlying26
theorem ne_nil_slice (W : World) (a : Option Addr) (n c : Nat) : (binOp .neq 26 (.slice a n c) (.slice none 0 0)).run Try.prog W = .ok (.bool (!a.isNone)) W := by
 simp only [binOp]
 simp [Op.equal, Op.maxDepth, Lib.run_equalIn_slice_nil W 9999 26 _ a n c 0 0 Try.underlying26]
theorem impl_ShortestCycle.nn {w : World} {base : Nat} {ok : Nat → Prop} {v : Value} {xs : List Int} (h : Kd.R (Kd.int .i64) 3 w base ok v xs) (hn : xs ≠ []) : ∃ (ad : Addr) (c : Nat), v = .slice (some ad) xs.length c := Kd.R_slice1 h (by cases xs with | nil => exact absurd rfl hn | cons x xs => simp)
theorem impl_ShortestCycle.e0 {P : Prop} (h : P := by
 go_wp2_with (first | (go_at_call 45; (with_reducible refine (impl_cycleFrom.callsN k1 A0 c0 l0 x [] _ ?side1 HC0.out A3.out).mono ?_); (case side1 => exact cb_ HR0.out HB.out); rintro e w_0 ⟨v5, rfl, ho, hb, hn⟩; obtain rfl := hn rfl; have HO5 := Aside0.mk (Kd.R_lower ho (bz_ HB.out)); replace HO := Aside0.mk (Kd.R_below HO.out hb); replace HB := Aside0.mk (bs_ HB.out hb); clear ho hb hn) | (go_at_call 45; (with_reducible refine (impl_cycleFrom.callsN k1 A0 c0 l0 x own _ ?side1 HC0.out A3.out).mono ?_); (case side1 => exact cb_ HR0.out HB.out); rintro e w_0 ⟨v5, rfl, ho, hb, hn⟩; obtain ⟨ad5, c5, rfl⟩ := impl_ShortestCycle.nn ho hown; have HO5 := Aside0.mk (Kd.R_lower ho (bz_ HB.out)); replace HO := Aside0.mk (Kd.R_below HO.out hb); replace HB := Aside0.mk (bs_ HB.out hb); clear ho hb hn))
 go_roundg k1
 case measure => omega
 case rel => exact ⟨out, wrap64 (x + 1), ef_, H', ⟨by have := HK1.out; omega⟩, HO, ⟨fun e_ => absurd e_ hout⟩, ⟨bb_ HB.out⟩⟩) : P := h
theorem impl_ShortestCycle.e1 {P : Prop} (h : P := by
 go_wp2_with (first | (go_at_call 45; (with_reducible refine (impl_cycleFrom.callsN k1 A0 c0 l0 x own _ ?side1 HC0.out A3.out).mono ?_); (case side1 => exact cb_ HR0.out HB.out); rintro e w_0 ⟨v5, rfl, ho, hb, hn⟩; obtain ⟨ad5, c5, rfl⟩ := impl_ShortestCycle.nn ho hown; have HO5 := Aside0.mk (Kd.R_lower ho (bz_ HB.out)); replace HO := Aside0.mk (Kd.R_below HO.out hb); replace HB := Aside0.mk (bs_ HB.out hb); clear ho hb hn))
 go_roundg k1
 case measure => omega
 case rel => exact ⟨own, wrap64 (x + 1), ef_, H', ⟨by have := HK1.out; omega⟩, HO5, ⟨fun e_ => absurd e_ hown⟩, ⟨bb_ HB.out⟩⟩) : P := h
set_option maxHeartbeats 4000000 in
set_option maxRecDepth 100000 in
theorem impl_ShortestCycle.calls (k : Nat) (A0 : Option Addr) (c0 : Nat) (l0 : List (S44)) (r : List Int) (w : World) (hr0 : Kd.C k44 w A0 l0.length l0) (hc0 : l0.length ≤ c0) (h : impl_ShortestCycle.f k l0 = some r) :
  Calls Try.prog 21 #[.slice A0 l0.length c0] w fun e w' => ∃ v0_ : Value, e = .returned (v0_) ∧ Kd.R (Kd.int .i64) 3 w' w.heap.size (fun _ => True) v0_ r ∧ Below w.heap.size w w' := by
 have HR0 := Aside0.mk hr0
 have HC0 := Aside0.mk hc0
 clear hr0 hc0
 have HB := Aside0.mk (Below.refl w.heap.size w)
 have hEQ := eq_nil_slice
 have hNE := ne_nil_slice
 unfold impl_ShortestCycle.f at h
 obtain ⟨b1, A10, h⟩ := Option.bind_eq_some_iff.1 h
 have A1 := Aside0.mk A10
 clear A10
 cases b1 with
 | false =>
  have h1 : some ([] : List Int) = some r := h
  obtain rfl := Option.some.inj h1
  clear h h1
  go_enter Try.func21, Try.ntmps21
  go_wp2_with (first | (go_at_call 33; (with_reducible refine (impl_DependsOk.calls k A0 c0 l0 _ _ ?side1 HC0.out A1.out).mono ?_); (case side1 => exact HR0.out); rintro e w1 ⟨rfl, hb⟩; replace HB := Aside0.mk (bs_ HB.out hb); (try clear hb)))
  go_ret
  exact ⟨_, fin_, Kd.R_nil _ _ _ _ _, bb_ HB.out⟩
 | true =>
  rw [if_pos rfl] at h
  have A2_ := Aside0.mk h
  clear h
  go_enter Try.func21, Try.ntmps21
  go_wp2_with (first | (go_at_call 33; (with_reducible refine (impl_DependsOk.calls k A0 c0 l0 _ _ ?side1 HC0.out A1.out).mono ?_); (case side1 => exact HR0.out); rintro e w1 ⟨rfl, hb⟩; replace HB := Aside0.mk (bs_ HB.out hb); (try clear hb)))
  go_loopg [3, 9] k (fun kq v3 v9 w' => ∃ (out : List Int) (x : Int), v9 = .int .i64 x ∧ Aside0 (impl_ShortestCycle.l0 kq l0 out x = some r) ∧ Aside0 (kq ≤ k) ∧ Aside0 (Kd.R (Kd.int .i64) 3 w' w.heap.size (fun _ => True) v3 out) ∧ Aside0 (out = [] → v3 = .slice none 0 0) ∧ Aside0 (Below w.heap.size w w'))
  case atStart => exact ⟨[], 0, ef_, A2_, ⟨Nat.le_refl _⟩, ⟨Kd.R_nil _ _ _ _ _⟩, ⟨fun _ => rfl⟩, ⟨bb_ HB.out⟩⟩
  case round =>
   clear A1 A2_ HB
   obtain ⟨out, x, rfl, HA, HK1, HO, HN, HB⟩ := hrel
   cases gk with
   | zero => exact absurd HA.out (by simp [impl_ShortestCycle.l0])
   | succ k1 =>
    have H := HA.out
    clear HA
    simp only [impl_ShortestCycle.l0] at H
    by_cases c1 : x < 128
    ·rw [if_pos c1] at H
     have c1b : decide (x < 128) = true := decide_eq_true c1
     clear c1
     obtain ⟨own, A30, H⟩ := Option.bind_eq_some_iff.1 H
     have A3 := Aside0.mk A30
     clear A30
     have hout0 : (out = [] ∧ u3 = .slice none 0 0) ∨ (out ≠ [] ∧ ∃ (ad : Addr) (c : Nat), u3 = .slice (some ad) out.length c) := by
      by_cases h : out = []
      ·exact Or.inl ⟨h, HN.out h⟩
      ·exact Or.inr ⟨h, impl_ShortestCycle.nn HO.out h⟩
     clear HN
     by_cases hown : own = []
     ·subst hown
      rw [if_pos rfl] at H
      have H' := Aside0.mk H
      clear H
      rcases hout0 with ⟨rfl, rfl⟩ | ⟨hout, ad3, c3, rfl⟩
      ·go_wp2_with (first | (go_at_call 45; (with_reducible refine (impl_cycleFrom.callsN k1 A0 c0 l0 x [] _ ?side1 HC0.out A3.out).mono ?_); (case side1 => exact cb_ HR0.out HB.out); rintro e w2 ⟨v5, rfl, ho, hb, hn⟩; obtain rfl := hn rfl; have HO5 := Aside0.mk (Kd.R_lower ho (bz_ HB.out)); replace HO := Aside0.mk (Kd.R_below HO.out hb); replace HB := Aside0.mk (bs_ HB.out hb); clear ho hb hn))
       go_roundg k1
       case measure => omega
       case rel => exact ⟨[], wrap64 (x + 1), ef_, H', ⟨by have := HK1.out; omega⟩, HO, ⟨fun _ => rfl⟩, ⟨bb_ HB.out⟩⟩
      ·exact impl_ShortestCycle.e0
     ·rw [if_neg hown] at H
      rcases hout0 with ⟨rfl, rfl⟩ | ⟨hout, ad3, c3, rfl⟩
      ·rw [if_pos rfl] at H
       have H' := Aside0.mk H
       clear H
       exact impl_ShortestCycle.e1
      ·rw [if_neg hout] at H
       by_cases c2 : (own.length : Int) < (out.length : Int)
       ·rw [if_pos c2] at H
        have H' := Aside0.mk H
        clear H
        have c2b : decide ((own.length : Int) < (out.length : Int)) = true := decide_eq_true c2
        have c2c : decide (own.length < out.length) = true := decide_eq_true (by omega)
        exact impl_ShortestCycle.e1
       ·rw [if_neg c2] at H
        have H' := Aside0.mk H
        clear H
        have c2b : decide ((own.length : Int) < (out.length : Int)) = false := decide_eq_false c2
        have c2c : decide (own.length < out.length) = false := decide_eq_false (by omega)
        exact impl_ShortestCycle.e0
    ·rw [if_neg c1] at H
     have c1b : decide (x < 128) = false := decide_eq_false c1
     clear c1
     obtain rfl := Option.some.inj H
     go_wp2
     go_ret
     exact ⟨_, fin_, HO.out, bb_ HB.out⟩

/-! ### spec_l01In: function 38 -/
def spec_l01In.f (a0 : Int) (a1 : Int) (a2 : Int) : Option (Bool) := if a0 ≥ a1 then (some (decide (a0 ≤ a2))) else (some false)
theorem spec_l01In.e0 {P : Prop} (h : P := by
 go_enter Try.func38, Try.ntmps38
 go_wp2
 go_ret
 exact ⟨by first | rfl | (simp; done) | (simp [*]; done), by repeat (first | exact Drawn0.refl _ | apply Drawn0.step)⟩) : P := h
set_option maxHeartbeats 8000000 in
set_option maxRecDepth 100000 in
theorem spec_l01In.calls (a0 : Int) (a1 : Int) (a2 : Int) (r : Bool) (w : World) (h : spec_l01In.f a0 a1 a2 = some r) :
  Calls Try.prog 38 #[.int .i64 a0, .int .i64 a1, .int .i64 a2] w fun e w' => e = .returned (.bool r) ∧ Drawn0 w w' := by
 have H : (if a0 ≥ a1 then (some (decide (a0 ≤ a2))) else (some false)) = some r := h
 clear h
 by_cases c4 : a0 ≥ a1
 ·rw [if_pos c4] at H
  have c4b0 : decide (a1 ≤ a0) = true := decide_eq_true c4
  clear c4
  obtain rfl := Option.some.inj H
  exact spec_l01In.e0
 ·rw [if_neg c4] at H
  have c4b0 : decide (a1 ≤ a0) = false := decide_eq_false c4
  clear c4
  obtain rfl := Option.some.inj H
  exact spec_l01In.e0

/-! ### spec_l08Less: function 55 -/
def spec_l08Less.f (a0_0 : Int) (a0_1 : Int) (a1_0 : Int) (a1_1 : Int) : Option (Bool) := if a0_0 < a1_0 then (some true) else (if a0_0 = a1_0 then (some (decide (a0_1 < a1_1))) else (some false))
theorem spec_l08Less.e0 {P : Prop} (h : P := by
 go_enter Try.func55, Try.ntmps55
 go_wp2_with (first | ((with_reducible refine gate_dst (N := 2) rfl ?_); refine box_event ?hg (N := 2) ?hd (cs := #[.int .i64 a0_0, .int .i64 a0_1]) (t := 44) ?hr ?_; (case hd => rfl); (case hg => rfl); (case hr => first | (go_simp; done) | (go_simp; rfl)); intro gb170 hg w_0 hbox hb; have BK170 := Aside0.mk (hbox); have GW170 := Aside0.mk ((by rw [hg]; exact (bz_ HB.out) : w.heap.size ≤ gb170)); have GE170 := Aside0.mk ((by rw [hg]; exact (bz_ HB.out) : w.heap.size ≤ gb170)); replace HB := Aside0.mk (bs_ HB.out hb); clear hb hbox hg) | ((with_reducible refine gate_dst (N := 3) rfl ?_); refine box_event ?hg (N := 3) ?hd (cs := #[.int .i64 a1_0, .int .i64 a1_1]) (t := 44) ?hr ?_; (case hd => rfl); (case hg => rfl); (case hr => first | (go_simp; done) | (go_simp; rfl)); intro gb171 hg w_0 hbox hb; have BK171 := Aside0.mk (hbox); have GW171 := Aside0.mk ((by rw [hg]; exact (bz_ HB.out) : w.heap.size ≤ gb171)); have GE171 := Aside0.mk ((by rw [hg]; exact (bz_ HB.out) : w.heap.size ≤ gb171)); replace HB := Aside0.mk (bs_ HB.out hb); have NB170_171 := Aside0.mk ((by rw [hg]; exact Nat.ne_of_lt (bl_ BK170.out) : gb170 ≠ gb171)); have NB171_170 := Aside0.mk ((by rw [hg]; exact Nat.ne_of_gt (bl_ BK170.out) : gb171 ≠ gb170)); replace BK170 := Aside0.mk (bk_ BK170.out hb); clear hb hbox hg; have hnb_ := NB170_171.out; have hnc_ := NB171_170.out; obtain ⟨hcz_0, hcz_1, hfz_0, hfz_1⟩ := cz2_ BK170.out; obtain ⟨hcz__0, hcz__1, hfz__0, hfz__1⟩ := cz2_ BK171.out))
 go_ret
 exact ⟨fin_, bb_ HB.out⟩) : P := h
set_option maxHeartbeats 8000000 in
set_option maxRecDepth 100000 in
theorem spec_l08Less.calls (a0_0 : Int) (a0_1 : Int) (a1_0 : Int) (a1_1 : Int) (r : Bool) (w : World) (h : spec_l08Less.f a0_0 a0_1 a1_0 a1_1 = some r) :
  Calls Try.prog 55 #[.agg #[.int .i64 a0_0, .int .i64 a0_1], .agg #[.int .i64 a1_0, .int .i64 a1_1]] w fun e w' => e = .returned (.bool r) ∧ Below w.heap.size w w' := by
 have hu44 := Try.underlying44
 have HB := Aside0.mk (Below.refl w.heap.size w)
 have H : (if a0_0 < a1_0 then (some true) else (if a0_0 = a1_0 then (some (decide (a0_1 < a1_1))) else (some false))) = some r := h
 clear h
 by_cases c3 : a0_0 < a1_0
 ·rw [if_pos c3] at H
  have c3b0 : decide (a0_0 < a1_0) = true := decide_eq_true c3
  clear c3
  obtain rfl := Option.some.inj H
  exact spec_l08Less.e0
 ·rw [if_neg c3] at H
  have c3b0 : decide (a0_0 < a1_0) = false := decide_eq_false c3
  clear c3
  by_cases c9 : a0_0 = a1_0
  ·rw [if_pos c9] at H
   have c9b0 : (a0_0 == a1_0) = true := beq_iff_eq.mpr c9
   have c9b1 : (a0_0 != a1_0) = false := bne_eq_false_iff_eq.mpr c9
   clear c9
   obtain rfl := Option.some.inj H
   exact spec_l08Less.e0
  ·rw [if_neg c9] at H
   have c9b0 : (a0_0 == a1_0) = false := beq_eq_false_iff_ne.mpr c9
   have c9b1 : (a0_0 != a1_0) = true := bne_iff_ne.mpr c9
   obtain rfl := Option.some.inj H
   exact spec_l08Less.e0

end Go.Proofs.Ytagmogkdlimofaa.PFnExactShortestCycle
-- thin
