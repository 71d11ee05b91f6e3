/- Each function that the law comes to, as a plain function, with the proof that the call in the model gives what that function says (written by a program of this session out of the translation). No condition. -/
import Derived.Test.YtagmogkdlimofaaPFnCyclesx0
import Derived.Test.YtagmogkdlimofaaPFnCyclesx4
import Derived.Test.YtagmogkdlimofaaPFnCyclesx5
import Derived.Test.YtagmogkdlimofaaPFnCyclesx7
namespace Go.Proofs.Ytagmogkdlimofaa.PFnCycles
open Go.RowKit Go.Proofs.YtagmogkdlimofaaW.PrintWords Go.Proofs.YtagmogkdlimofaaW.PrintLast Go.Proofs.YtagmogkdlimofaaW.PrintMore
attribute [local go_sem] max2_int min2_int max_two min_two max_three min_three max_four min_four   -- for this text's walks alone
set_option linter.unusedVariables false
set_option linter.unusedSimpArgs false

/-! ### impl_SuccessorsOf: function 36 -/
def impl_SuccessorsOf.l0 : Nat → Int → List Int → List (S44) → Int → Int → Option (List Int)
 | 0, _, _, _, _, _ => none
 | k + 1, x1, x5, x9, x10, x11 => if x11 < x10 then (if 0 ≤ x11 then (if x11 < (x9.length : Int) then (if ((rd_T44 x9 x11).f0) = x1 then (if x5.length < 17592186044416 then (impl_SuccessorsOf.l0 k x1 (x5 ++ [(rd_T44 x9 x11).f1]) x9 x10 (wrap64 (x11 + 1))) else (none)) else (impl_SuccessorsOf.l0 k x1 x5 x9 x10 (wrap64 (x11 + 1)))) else (none)) else (none)) else (some x5)
def impl_SuccessorsOf.f (k : Nat) (l0 : List (S44)) (a1 : Int) : Option (List Int) := impl_SuccessorsOf.l0 k a1 (([] : List Int)) l0 (l0.length : Int) 0
theorem impl_SuccessorsOf.mono_l : ∀ k, (∀ y0 y1 y2 y3 y4, LeO (impl_SuccessorsOf.l0 k y0 y1 y2 y3 y4) (impl_SuccessorsOf.l0 (k + 1) y0 y1 y2 y3 y4))
 | 0 => fun _ _ _ _ _ r h => by simp [impl_SuccessorsOf.l0] at h
 | k + 1 => by
  have ih0 := impl_SuccessorsOf.mono_l k
  ·intro y0 y1 y2 y3 y4
   unfold impl_SuccessorsOf.l0
   repeat' first
   | (with_reducible exact ih0 _ _ _ _ _)
   | (with_reducible exact LeO.refl _)
   | (with_reducible exact LeO.none _)
   | (with_reducible refine LeO.ite ?_ ?_)
   | (with_reducible refine LeO.bind ?_ (fun _ => ?_))
   | exact ih0 _ _ _ _ _
   | exact LeO.none _
   | refine LeO.ite ?_ ?_
   | refine LeO.bind ?_ (fun _ => ?_)
theorem impl_SuccessorsOf.mono : ∀ a0 a1 k, LeO (impl_SuccessorsOf.f k a0 a1) (impl_SuccessorsOf.f (k + 1) a0 a1) := by
 intro a0 a1 k
 have ih0 := impl_SuccessorsOf.mono_l k
 unfold impl_SuccessorsOf.f
 repeat' first
   | (with_reducible exact ih0 _ _ _ _ _)
   | (with_reducible exact LeO.refl _)
   | (with_reducible exact LeO.none _)
   | (with_reducible refine LeO.ite ?_ ?_)
   | (with_reducible refine LeO.bind ?_ (fun _ => ?_))
   | exact ih0 _ _ _ _ _
   | exact LeO.none _
   | refine LeO.ite ?_ ?_
   | refine LeO.bind ?_ (fun _ => ?_)
set_option maxHeartbeats 8000000 in
set_option maxRecDepth 100000 in
theorem impl_SuccessorsOf.calls (k : Nat) (A0 : Option Addr) (c0 : Nat) (l0 : List (S44)) (a1 : Int) (r : List Int) (w : World) (hr0 : Kd.C k44 w A0 l0.length l0) (hc0 : l0.length ≤ c0) (h : impl_SuccessorsOf.f k l0 a1 = some r) :
  Calls Try.prog 36 #[.slice A0 l0.length c0, .int .i64 a1] w fun e w' => ∃ v0_ : Value, e = .returned (v0_) ∧ Kd.R (Kd.int .i64) 3 w' w.heap.size (fun _ => True) v0_ r ∧ Below w.heap.size w w' := by
 have hu44 := Try.underlying44
 have HR0 := Aside0.mk hr0
 have HC0 := Aside0.mk hc0
 clear hr0 hc0
 have HB := Aside0.mk (Below.refl w.heap.size w)
 have H : (impl_SuccessorsOf.l0 k a1 (([] : List Int)) l0 (l0.length : Int) 0) = some r := h
 clear h
 obtain ⟨y220, hy220⟩ : ∃ y_ : List Int, y_ = (([] : List Int)) := ⟨_, rfl⟩
 replace H : (impl_SuccessorsOf.l0 k a1 y220 l0 (l0.length : Int) 0) = some r := by first | (rw [hy220]; with_reducible exact H) | (have H2_ := (Option.bind_some _ _).symm.trans H; rw [hy220]; with_reducible exact H2_) | (have H2_ := (Option.bind_some _ _).symm.trans H; with_reducible exact H2_) | with_reducible exact H | (rw [hy220]; exact H) | exact H
 have Ny220 := Aside0.mk hy220
 clear hy220
 have H' := Aside0.mk H
 clear H
 go_enter Try.func36, Try.ntmps36
 go_wp2_with (first | ((with_reducible refine gate_dst (N := 8) rfl ?_); refine Kd.R_lit (Kd.int .i64) _ 3 ?hg (N := 8) ?hd (xs := ([] : List Int)) (inner := []) (ok := fun _ => True) (okp := fun _ => True) ?hr ?hp (fun _ hk => hk) trivial (Below.refl _ _) (Nat.le_refl _) (by simp) ?_; (case hd => rfl); (case hg => rfl); (case hr => first | (go_simp; done) | (go_simp; rfl)); (case hp => exact (Reps.none _ _)); intro v221 w3 ho4 hb hg_ hnew_; clear hg_ hnew_; (first | rw [← Ny220.out] at ho4 | (simp only [Int.reduceToNat] at ho4; rw [← Ny220.out] at ho4)); have HO222 := Aside0.mk (Kd.R_lower ho4 (bz_ HB.out)); replace HB := Aside0.mk (bs_ HB.out hb); clear hb ho4))
 go_loopg [5, 11] k (fun kq v5 v11 w' => ∃ (x5_1 : List Int) (x11_1 : Int), v11 = .int .i64 x11_1 ∧ Aside0 (impl_SuccessorsOf.l0 kq a1 x5_1 l0 (l0.length : Int) x11_1 = some r) ∧ Aside0 (kq ≤ k) ∧ Aside0 (Kd.R (Kd.int .i64) 3 w' w.heap.size (fun _ => True) v5 x5_1) ∧ Aside0 (Below w.heap.size w w'))
 case atStart => exact ⟨(y220), (0), ef_, H', ⟨Nat.le_refl _⟩, ⟨by (with_reducible repeat (first | apply Kd.R_alloc | apply Kd.R_drewN | apply Kd.R_drew)); exact HO222.out⟩, ⟨bb_ HB.out⟩⟩
 case round =>
  clear H'
  obtain ⟨x5_1, x11_1, rfl, HA, HK1, HO_5, HB⟩ := hrel
  cases gk with
  | zero => exact absurd HA.out (by simp [impl_SuccessorsOf.l0])
  | succ k1 =>
   have H := HA.out
   clear HA
   simp only [impl_SuccessorsOf.l0] at H
   by_cases c5 : x11_1 < (l0.length : Int)
   ·rw [if_pos c5] at H
    have c5b0 : decide (x11_1 < (l0.length : Int)) = true := decide_eq_true c5
    clear c5
    by_cases c6 : 0 ≤ x11_1
    ·rw [if_pos c6] at H
     have c6b0 : decide (0 ≤ x11_1) = true := decide_eq_true c6
     clear c6
     by_cases c7 : x11_1 < (l0.length : Int)
     ·rw [if_pos c7] at H
      have c7b0 : decide (x11_1 < (l0.length : Int)) = true := decide_eq_true c7
      clear c7
      by_cases c8 : ((rd_T44 l0 x11_1).f0) = a1
      ·rw [if_pos c8] at H
       have c8b0 : (((rd_T44 l0 x11_1).f0) == a1) = true := beq_iff_eq.mpr c8
       have c8b1 : (((rd_T44 l0 x11_1).f0) != a1) = false := bne_eq_false_iff_eq.mpr c8
       clear c8
       by_cases c9 : x5_1.length < 17592186044416
       ·rw [if_pos c9] at H
        have LMc9 := Aside0.mk c9
        clear c9
        obtain ⟨y225, hy225⟩ : ∃ y_ : List Int, y_ = (x5_1 ++ [(rd_T44 l0 x11_1).f1]) := ⟨_, rfl⟩
        replace H : (impl_SuccessorsOf.l0 k1 a1 y225 l0 (l0.length : Int) (wrap64 (x11_1 + 1))) = some r := by first | (rw [hy225]; with_reducible exact H) | (have H2_ := (Option.bind_some _ _).symm.trans H; rw [hy225]; with_reducible exact H2_) | (have H2_ := (Option.bind_some _ _).symm.trans H; with_reducible exact H2_) | with_reducible exact H | (rw [hy225]; exact H) | exact H
        have Ny225 := Aside0.mk hy225
        clear hy225
        have H' := Aside0.mk H
        clear H
        have p223 : 0 ≤ (x11_1 : Int) := of_decide_eq_true dg_
        have q223 : x11_1 < (l0.length : Int) := of_decide_eq_true dg_
        obtain ⟨ad223, e223, hx223_0, hx223_1⟩ := at_T44 HR0.out x11_1 p223 q223
        cases e223
        replace hx223_0 := (HB.out.cell (World.block_lt_of_cell? w _ hx223_0)).trans hx223_0
        replace hx223_1 := (HB.out.cell (World.block_lt_of_cell? w _ hx223_1)).trans hx223_1
        replace p223 := eq_true p223
        replace q223 := eq_true q223
        go_wp2_with (first | ((with_reducible refine gate_dst (N := 7) rfl ?_); refine box_event ?hg (N := 7) ?hd (cs := #[.int .i64 0, .int .i64 0]) (t := 44) ?hr ?_; (case hd => rfl); (case hg => rfl); (case hr => first | (go_simp; done) | (go_simp; rfl)); intro gb224 hg w10 hbox hb; replace HO_5 := Aside0.mk (Kd.R_below (ra_ HO_5.out) hb); have BK224 := Aside0.mk (hbox); have GW224 := Aside0.mk ((by rw [hg]; exact (bz_ HB.out) : w.heap.size ≤ gb224)); have GE224 := Aside0.mk ((by rw [hg]; exact (bz_ HB.out) : w.heap.size ≤ gb224)); replace HB := Aside0.mk (bs_ HB.out hb); clear hb hbox hg; obtain ⟨hcz11_0, hcz11_1, hfz11_0, hfz11_1⟩ := cz2_ BK224.out) | ((with_reducible refine gate_builtin (b := .append) (xs := #[.tmp 19, .tmp 22]) rfl ?_); at_builtin; refine Kd.R_append (Kd.int .i64) (w0 := w) w.heap.size rfl (.tmp 19) (.tmp 22) 26 3 (.int .i64 0) 8 rfl Try.underlying26 info3 rfl (by decide) (by omega) u5 x5_1 ((rd_T44 l0 x11_1).f1) [.int .i64 ((rd_T44 l0 x11_1).f1)] (fun _ => True) (fun _ => False) rfl (by first | (go_simp; done) | (go_simp; rfl)) ?aP (fun _ hk => hk.elim) ?aF ?aO ?aB ?aS ?aL ?_; (case aP => exact rfl); (case aB => exact (by repeat (first | (with_reducible first | exact HB.out | apply below_alloc | apply pw_below_drewN | apply below_drew1 | refine below_set ?_ GE224.out) | exact HB.out))); (case aF => exact (fun _ _ => trivial)); (case aO => exact (rm_ (Kd.R_types HO_5.out BK224.out (by decide)) (fun _ hk => trivial))); (case aS => exact (bz_ HB.out)); (case aL => have := LMc9.out; omega); intro v226 w12 ho hb hg hat; rw [← Ny225.out] at ho; have n0_ := Aside0.mk (blk_grown (g := gb224) (o := .cells #[.int .i64 ((rd_T44 l0 x11_1).f0), .int .i64 ((rd_T44 l0 x11_1).f1)] 44 (0, 0)) (by (with_reducible repeat (first | refine blk_drewN ?_ _ | refine blk_drew ?_ | refine blk_alloc ?_ _)); refine blk_put (cs := #[.int .i64 ((rd_T44 l0 x11_1).f0), .int .i64 0]) ?_ 1 _ rfl; (with_reducible repeat (first | refine blk_drewN ?_ _ | refine blk_drew ?_ | refine blk_alloc ?_ _)); refine blk_put (cs := #[.int .i64 0, .int .i64 0]) ?_ 0 _ rfl; (with_reducible repeat (first | refine blk_drewN ?_ _ | refine blk_drew ?_ | refine blk_alloc ?_ _)); exact BK224.out) hg (Kd.R_ne HO_5.out BK224.out (by decide))); have n1_ := Aside0.mk (hb); have n2_ := Aside0.mk (ho); clear BK224; clear HB; clear HO_5; have BK224 := n0_; have HB := n1_; have HO227 := n2_; clear n0_ n1_ n2_; clear ho hb hg hat))
        go_roundg k1
        case measure => have := HK1.out; omega
        case rel => exact ⟨(y225), (wrap64 (x11_1 + 1)), ef_, H', ⟨by have := HK1.out; omega⟩, ⟨by (with_reducible repeat (first | apply Kd.R_alloc | apply Kd.R_drewN | apply Kd.R_drew)); exact HO227.out⟩, ⟨bb_ HB.out⟩⟩
       ·rw [if_neg c9] at H
        exact absurd H (by simp)
      ·rw [if_neg c8] at H
       have c8b0 : (((rd_T44 l0 x11_1).f0) == a1) = false := beq_eq_false_iff_ne.mpr c8
       have c8b1 : (((rd_T44 l0 x11_1).f0) != a1) = true := bne_iff_ne.mpr c8
       have H' := Aside0.mk H
       clear H
       have p223 : 0 ≤ (x11_1 : Int) := of_decide_eq_true dg_
       have q223 : x11_1 < (l0.length : Int) := of_decide_eq_true dg_
       obtain ⟨ad223, e223, hx223_0, hx223_1⟩ := at_T44 HR0.out x11_1 p223 q223
       cases e223
       replace hx223_0 := (HB.out.cell (World.block_lt_of_cell? w _ hx223_0)).trans hx223_0
       replace hx223_1 := (HB.out.cell (World.block_lt_of_cell? w _ hx223_1)).trans hx223_1
       replace p223 := eq_true p223
       replace q223 := eq_true q223
       go_wp2_with (first | ((with_reducible refine gate_dst (N := 7) rfl ?_); refine box_event ?hg (N := 7) ?hd (cs := #[.int .i64 0, .int .i64 0]) (t := 44) ?hr ?_; (case hd => rfl); (case hg => rfl); (case hr => first | (go_simp; done) | (go_simp; rfl)); intro gb224 hg w13 hbox hb; replace HO_5 := Aside0.mk (Kd.R_below (ra_ HO_5.out) hb); have BK224 := Aside0.mk (hbox); have GW224 := Aside0.mk ((by rw [hg]; exact (bz_ HB.out) : w.heap.size ≤ gb224)); have GE224 := Aside0.mk ((by rw [hg]; exact (bz_ HB.out) : w.heap.size ≤ gb224)); replace HB := Aside0.mk (bs_ HB.out hb); clear hb hbox hg; obtain ⟨hcz14_0, hcz14_1, hfz14_0, hfz14_1⟩ := cz2_ BK224.out))
       go_roundg k1
       case measure => have := HK1.out; omega
       case rel => exact ⟨(x5_1), (wrap64 (x11_1 + 1)), ef_, H', ⟨by have := HK1.out; omega⟩, ⟨rm_ (Kd.R_types HO_5.out BK224.out (by decide)) (fun _ hk => trivial)⟩, ⟨bb_ HB.out⟩⟩
     ·rw [if_neg c7] at H
      exact absurd H (by simp)
    ·rw [if_neg c6] at H
     exact absurd H (by simp)
   ·rw [if_neg c5] at H
    have c5b0 : decide (x11_1 < (l0.length : Int)) = false := decide_eq_false c5
    clear c5
    obtain rfl := Option.some.inj H
    go_wp2
    go_ret
    exact ⟨_, fin_, by (with_reducible repeat (first | apply Kd.R_alloc | apply Kd.R_drewN | apply Kd.R_drew)); exact HO_5.out, bb_ HB.out⟩

/-! ### impl_StepsBetween: function 13 -/
mutual
def impl_StepsBetween.j0 : Nat → List (S44) → Int → Int → Bool → Option (Int)
 | 0, _, _, _, _ => none
 | k + 1, x0, x1, x2, x23 => if x23 = true then (some (-1)) else ((impl_distancesTo.f k x0 x2 0).bind fun t231 => ((impl_SuccessorsOf.f k x0 x1).bind fun t234 => (impl_StepsBetween.l0 k t231 (-1) t234 (t234.length : Int) 0)))
def impl_StepsBetween.l0 : Nat → List Int → Int → List Int → Int → Int → Option (Int)
 | 0, _, _, _, _, _ => none
 | k + 1, x7, x8, x29, x30, x31 => if x31 < x30 then (if 0 ≤ x31 then (if x31 < (x29.length : Int) then (if 0 ≤ (rd x29 x31) then (if (rd x29 x31) < (x7.length : Int) then (if (rd x7 (rd x29 x31)) ≥ 0 then (if x8 < 0 then (impl_StepsBetween.l0 k x7 (wrap64 ((rd x7 (rd x29 x31)) + 1)) x29 x30 (wrap64 (x31 + 1))) else (if (wrap64 ((rd x7 (rd x29 x31)) + 1)) < x8 then (impl_StepsBetween.l0 k x7 (wrap64 ((rd x7 (rd x29 x31)) + 1)) x29 x30 (wrap64 (x31 + 1))) else (impl_StepsBetween.l0 k x7 x8 x29 x30 (wrap64 (x31 + 1))))) else (impl_StepsBetween.l0 k x7 x8 x29 x30 (wrap64 (x31 + 1)))) else (none)) else (none)) else (none)) else (none)) else (some x8)
end
def impl_StepsBetween.f (k : Nat) (l0 : List (S44)) (a1 : Int) (a2 : Int) : Option (Int) := (impl_DependsOk.f k l0).bind fun t228 => (if t228 = true then ((impl_inside.f a1 0 127).bind fun t229 => (if t229 = true then ((impl_inside.f a2 0 127).bind fun t230 => (impl_StepsBetween.j0 k l0 a1 a2 (!t230))) else (impl_StepsBetween.j0 k l0 a1 a2 true))) else (impl_StepsBetween.j0 k l0 a1 a2 true))
theorem impl_StepsBetween.mono_l : ∀ k, (∀ y0 y1 y2 y3, LeO (impl_StepsBetween.j0 k y0 y1 y2 y3) (impl_StepsBetween.j0 (k + 1) y0 y1 y2 y3)) ∧ (∀ y0 y1 y2 y3 y4, LeO (impl_StepsBetween.l0 k y0 y1 y2 y3 y4) (impl_StepsBetween.l0 (k + 1) y0 y1 y2 y3 y4))
 | 0 => ⟨fun _ _ _ _ r h => by simp [impl_StepsBetween.j0] at h, fun _ _ _ _ _ r h => by simp [impl_StepsBetween.l0] at h⟩
 | k + 1 => by
  obtain ⟨ih0, ih1⟩ := impl_StepsBetween.mono_l k
  refine ⟨?_, ?_⟩
  ·intro y0 y1 y2 y3
   unfold impl_StepsBetween.j0
   repeat' first
   | (with_reducible exact ih0 _ _ _ _)
   | (with_reducible exact ih1 _ _ _ _ _)
   | (with_reducible exact impl_DependsOk.mono _ _)
   | (with_reducible exact impl_SuccessorsOf.mono _ _ _)
   | (with_reducible exact impl_distancesTo.mono _ _ _ _)
   | (with_reducible exact LeO.refl _)
   | (with_reducible exact LeO.none _)
   | (with_reducible refine LeO.ite ?_ ?_)
   | (with_reducible refine LeO.bind ?_ (fun _ => ?_))
   | exact ih0 _ _ _ _
   | exact ih1 _ _ _ _ _
   | exact impl_DependsOk.mono _ _
   | exact impl_SuccessorsOf.mono _ _ _
   | exact impl_distancesTo.mono _ _ _ _
   | exact LeO.none _
   | refine LeO.ite ?_ ?_
   | refine LeO.bind ?_ (fun _ => ?_)
  ·intro y0 y1 y2 y3 y4
   unfold impl_StepsBetween.l0
   repeat' first
   | (with_reducible exact ih0 _ _ _ _)
   | (with_reducible exact ih1 _ _ _ _ _)
   | (with_reducible exact impl_DependsOk.mono _ _)
   | (with_reducible exact impl_SuccessorsOf.mono _ _ _)
   | (with_reducible exact impl_distancesTo.mono _ _ _ _)
   | (with_reducible exact LeO.refl _)
   | (with_reducible exact LeO.none _)
   | (with_reducible refine LeO.ite ?_ ?_)
   | (with_reducible refine LeO.bind ?_ (fun _ => ?_))
   | exact ih0 _ _ _ _
   | exact ih1 _ _ _ _ _
   | exact impl_DependsOk.mono _ _
   | exact impl_SuccessorsOf.mono _ _ _
   | exact impl_distancesTo.mono _ _ _ _
   | exact LeO.none _
   | refine LeO.ite ?_ ?_
   | refine LeO.bind ?_ (fun _ => ?_)
theorem impl_StepsBetween.mono : ∀ a0 a1 a2 k, LeO (impl_StepsBetween.f k a0 a1 a2) (impl_StepsBetween.f (k + 1) a0 a1 a2) := by
 intro a0 a1 a2 k
 obtain ⟨ih0, ih1⟩ := impl_StepsBetween.mono_l k
 unfold impl_StepsBetween.f
 repeat' first
   | (with_reducible exact ih0 _ _ _ _)
   | (with_reducible exact ih1 _ _ _ _ _)
   | (with_reducible exact impl_DependsOk.mono _ _)
   | (with_reducible exact impl_SuccessorsOf.mono _ _ _)
   | (with_reducible exact impl_distancesTo.mono _ _ _ _)
   | (with_reducible exact LeO.refl _)
   | (with_reducible exact LeO.none _)
   | (with_reducible refine LeO.ite ?_ ?_)
   | (with_reducible refine LeO.bind ?_ (fun _ => ?_))
   | exact ih0 _ _ _ _
   | exact ih1 _ _ _ _ _
   | exact impl_DependsOk.mono _ _
   | exact impl_SuccessorsOf.mono _ _ _
   | exact impl_distancesTo.mono _ _ _ _
   | exact LeO.none _
   | refine LeO.ite ?_ ?_
   | refine LeO.bind ?_ (fun _ => ?_)
theorem impl_StepsBetween.e0 {P : Prop} (h : P := by
 go_wp2_with (first | ((with_reducible refine gate_callee (f := 33) rfl ?_); refine gm_ (some 12) Try.func33 #[.slice A0 l0.length c0] rfl ?_; (with_reducible refine (impl_DependsOk.calls k _ _ l0 _ _ ?side1 HC0.out A5.out).mono ?_); (case side1 => exact cb_ HR0.out HB.out); rintro e w_0 ⟨rfl, hb⟩; refine ⟨_, rfl, ?_⟩; replace HB := Aside0.mk (bs_ HB.out hb); (try clear hb)) | (go_at_call 34; (with_reducible refine (impl_inside.calls a1 0 127 _ _ A7.out).mono ?_); rintro e w' ⟨rfl, ⟨nd, rfl⟩⟩))
 go_meet
 case rel => exact ⟨_, (true), ef_, H', ⟨kq_⟩, ⟨bb_ HB.out⟩⟩) : P := h
theorem impl_StepsBetween.e1 {P : Prop} (h : P := by
 go_wp2
 go_roundg k2
 case measure => have := HJ3.out; have := HK2.out; omega
 case rel => exact ⟨(wrap64 ((rd t231 (rd t234 x31_2)) + 1)), (wrap64 (x31_2 + 1)), ef_, ef_, H', ⟨by have := HJ3.out; have := HK2.out; omega⟩, ⟨by (with_reducible repeat (first | apply Kd.R_alloc | apply Kd.R_drewN | apply Kd.R_drew)); exact HO_7.out⟩, ⟨by (with_reducible repeat (first | apply Kd.R_alloc | apply Kd.R_drewN | apply Kd.R_drew)); exact HO_29.out⟩, ⟨bb_ HB.out⟩⟩) : P := h
theorem impl_StepsBetween.e2 {P : Prop} (h : P := by
 go_wp2
 go_roundg k2
 case measure => have := HJ3.out; have := HK2.out; omega
 case rel => exact ⟨(x8_2), (wrap64 (x31_2 + 1)), ef_, ef_, H', ⟨by have := HJ3.out; have := HK2.out; omega⟩, ⟨by (with_reducible repeat (first | apply Kd.R_alloc | apply Kd.R_drewN | apply Kd.R_drew)); exact HO_7.out⟩, ⟨by (with_reducible repeat (first | apply Kd.R_alloc | apply Kd.R_drewN | apply Kd.R_drew)); exact HO_29.out⟩, ⟨bb_ HB.out⟩⟩) : P := h
set_option maxHeartbeats 8000000 in
set_option maxRecDepth 100000 in
theorem impl_StepsBetween.calls (k : Nat) (A0 : Option Addr) (c0 : Nat) (l0 : List (S44)) (a1 : Int) (a2 : Int) (r : Int) (w : World) (hr0 : Kd.C k44 w A0 l0.length l0) (hc0 : l0.length ≤ c0) (h : impl_StepsBetween.f k l0 a1 a2 = some r) :
  Calls Try.prog 13 #[.slice A0 l0.length c0, .int .i64 a1, .int .i64 a2] w fun e w' => e = .returned (.int .i64 r) ∧ Below w.heap.size w w' := by
 have HR0 := Aside0.mk hr0
 have HC0 := Aside0.mk hc0
 clear hr0 hc0
 have HB := Aside0.mk (Below.refl w.heap.size w)
 have H : ((impl_DependsOk.f k l0).bind fun t228 => (if t228 = true then ((impl_inside.f a1 0 127).bind fun t229 => (if t229 = true then ((impl_inside.f a2 0 127).bind fun t230 => (impl_StepsBetween.j0 k l0 a1 a2 (!t230))) else (impl_StepsBetween.j0 k l0 a1 a2 true))) else (impl_StepsBetween.j0 k l0 a1 a2 true))) = some r := h
 clear h
 have HC4 := Aside0.mk H
 clear H
 go_enter Try.func13, Try.ntmps13
 go_upto_region 1 with (fail)
 go_cut [23] (fun v23 wc => ∃ (kq : Nat) (x23_3 : Bool), v23 = .bool x23_3 ∧ Aside0 (impl_StepsBetween.j0 kq l0 a1 a2 x23_3 = some r) ∧ Aside0 (kq ≤ k) ∧ Aside0 (Below w.heap.size w wc))
 case first =>
  have H := HC4.out
  clear HC4
  replace H := Option.bind_eq_some_iff.mp H
  obtain ⟨t228, A50, H⟩ := H
  try dsimp only at H
  have A5 := Aside0.mk A50
  clear A50
  by_cases c6 : t228 = true
  ·subst c6
   rw [if_pos rfl] at H
   replace H := Option.bind_eq_some_iff.mp H
   obtain ⟨t229, A70, H⟩ := H
   try dsimp only at H
   have A7 := Aside0.mk A70
   clear A70
   by_cases c8 : t229 = true
   ·subst c8
    rw [if_pos rfl] at H
    replace H := Option.bind_eq_some_iff.mp H
    obtain ⟨t230, A90, H⟩ := H
    try dsimp only at H
    have A9 := Aside0.mk A90
    clear A90
    have H' := Aside0.mk H
    clear H
    go_wp2_with (first | ((with_reducible refine gate_callee (f := 33) rfl ?_); refine gm_ (some 12) Try.func33 #[.slice A0 l0.length c0] rfl ?_; (with_reducible refine (impl_DependsOk.calls k _ _ l0 true _ ?side1 HC0.out A5.out).mono ?_); (case side1 => exact cb_ HR0.out HB.out); rintro e w10 ⟨rfl, hb⟩; refine ⟨_, rfl, ?_⟩; replace HB := Aside0.mk (bs_ HB.out hb); (try clear hb)) | (go_at_call 34; (with_reducible refine (impl_inside.calls a1 0 127 true _ A7.out).mono ?_); rintro e w' ⟨rfl, ⟨nd, rfl⟩⟩) | (go_at_call 34; (with_reducible refine (impl_inside.calls a2 0 127 t230 _ A9.out).mono ?_); rintro e w' ⟨rfl, ⟨nd, rfl⟩⟩))
    go_meet
    case rel => exact ⟨_, (!t230), ef_, H', ⟨kq_⟩, ⟨bb_ HB.out⟩⟩
   ·replace c8 := Bool.eq_false_iff.mpr c8
    subst c8
    rw [if_neg (show ¬ (false = true) by decide)] at H
    have H' := Aside0.mk H
    clear H
    exact impl_StepsBetween.e0
  ·replace c6 := Bool.eq_false_iff.mpr c6
   subst c6
   rw [if_neg (show ¬ (false = true) by decide)] at H
   have H' := Aside0.mk H
   clear H
   exact impl_StepsBetween.e0
 case rest =>
  clear HC4
  obtain ⟨kq, x23_3, rfl, HA, HJ3, HB⟩ := hcut
  cases kq with
  | zero => exact absurd HA.out (by simp [impl_StepsBetween.j0])
  | succ kj3 =>
   have H := HA.out
   clear HA
   simp only [impl_StepsBetween.j0] at H
   by_cases c13 : x23_3 = true
   ·subst c13
    rw [if_pos rfl] at H
    obtain rfl := Option.some.inj H
    go_wp2
    go_ret
    exact ⟨fin_, bb_ HB.out⟩
   ·replace c13 := Bool.eq_false_iff.mpr c13
    subst c13
    rw [if_neg (show ¬ (false = true) by decide)] at H
    replace H := Option.bind_eq_some_iff.mp H
    obtain ⟨t231, A140, H⟩ := H
    try dsimp only at H
    have A14 := Aside0.mk A140
    clear A140
    replace H := Option.bind_eq_some_iff.mp H
    obtain ⟨t234, A150, H⟩ := H
    try dsimp only at H
    have A15 := Aside0.mk A150
    clear A150
    have H' := Aside0.mk H
    clear H
    go_wp2_with (first | ((with_reducible refine gate_callee (f := 35) rfl ?_); refine gm_ (some 26) Try.func35 #[.slice A0 l0.length c0, .int .i64 a2, .int .i64 0] rfl ?_; (with_reducible refine (impl_distancesTo.calls kj3 _ _ l0 a2 0 t231 _ ?side1 HC0.out A14.out).mono ?_); (case side1 => exact cb_ HR0.out HB.out); rintro e w16 ⟨v232, rfl, ho0, hb⟩; refine ⟨_, rfl, ?_⟩; have HO233 := Aside0.mk (Kd.R_lower ho0 (bz_ HB.out)); replace HB := Aside0.mk (bs_ HB.out hb); (try clear hb); (try clear ho0)) | ((with_reducible refine gate_callee (f := 36) rfl ?_); refine gm_ (some 29) Try.func36 #[.slice A0 l0.length c0, .int .i64 a1] rfl ?_; (with_reducible refine (impl_SuccessorsOf.calls kj3 _ _ l0 a1 t234 _ ?side1 HC0.out A15.out).mono ?_); (case side1 => exact cb_ HR0.out HB.out); rintro e w17 ⟨v235, rfl, ho0, hb⟩; refine ⟨_, rfl, ?_⟩; have HO236 := Aside0.mk (Kd.R_lower (Kd.R_new' ho0 (rl_ HO233.out)) (bz_ HB.out)); replace HO233 := Aside0.mk (Kd.R_elder' (ra_ HO233.out) (Kd.R_base ho0) hb); replace HB := Aside0.mk (bs_ HB.out hb); (try clear hb); (try clear ho0); obtain ⟨Ao18, co18, eo18⟩ := Kd.R_slice HO236.out; subst eo18))
    go_loopg [8, 31] kj3 (fun kq v8 v31 w' => ∃ (x8_2 : Int) (x31_2 : Int), v8 = .int .i64 x8_2 ∧ v31 = .int .i64 x31_2 ∧ Aside0 (impl_StepsBetween.l0 kq t231 x8_2 t234 (t234.length : Int) x31_2 = some r) ∧ Aside0 (kq ≤ kj3) ∧ Aside0 (Kd.R (Kd.int .i64) 3 w' w.heap.size (fun k_ => some k_ ≠ ((.slice Ao18 t234.length co18) : Value).ownBlock) v232 t231) ∧ Aside0 (Kd.R (Kd.int .i64) 3 w' w.heap.size (fun k_ => some k_ ≠ (v232 : Value).ownBlock) (.slice Ao18 t234.length co18) t234) ∧ Aside0 (Below w.heap.size w w'))
    case atStart => exact ⟨((-1)), (0), ef_, ef_, H', ⟨Nat.le_refl _⟩, ⟨by (with_reducible repeat (first | apply Kd.R_alloc | apply Kd.R_drewN | apply Kd.R_drew)); exact Kd.R_mono HO233.out (fun _ hk => hk.2)⟩, ⟨by (with_reducible repeat (first | apply Kd.R_alloc | apply Kd.R_drewN | apply Kd.R_drew)); exact Kd.R_mono HO236.out (fun _ hk => hk.2)⟩, ⟨bb_ HB.out⟩⟩
    case round =>
     clear H'
     try clear c13
     obtain ⟨x8_2, x31_2, rfl, rfl, HA, HK2, HO_7, HO_29, HB⟩ := hrel
     cases gk with
     | zero => exact absurd HA.out (by simp [impl_StepsBetween.l0])
     | succ k2 =>
      have H := HA.out
      clear HA
      simp only [impl_StepsBetween.l0] at H
      by_cases c19 : x31_2 < (t234.length : Int)
      ·rw [if_pos c19] at H
       have c19b0 : decide (x31_2 < (t234.length : Int)) = true := decide_eq_true c19
       clear c19
       by_cases c20 : 0 ≤ x31_2
       ·rw [if_pos c20] at H
        have c20b0 : decide (0 ≤ x31_2) = true := decide_eq_true c20
        clear c20
        by_cases c21 : x31_2 < (t234.length : Int)
        ·rw [if_pos c21] at H
         have c21b0 : decide (x31_2 < (t234.length : Int)) = true := decide_eq_true c21
         clear c21
         by_cases c22 : 0 ≤ (rd t234 x31_2)
         ·rw [if_pos c22] at H
          have c22b0 : decide (0 ≤ (rd t234 x31_2)) = true := decide_eq_true c22
          clear c22
          by_cases c23 : (rd t234 x31_2) < (t231.length : Int)
          ·rw [if_pos c23] at H
           have c23b0 : decide ((rd t234 x31_2) < (t231.length : Int)) = true := decide_eq_true c23
           clear c23
           by_cases c24 : (rd t231 (rd t234 x31_2)) ≥ 0
           ·rw [if_pos c24] at H
            have c24b0 : decide (0 ≤ (rd t231 (rd t234 x31_2))) = true := decide_eq_true c24
            clear c24
            by_cases c25 : x8_2 < 0
            ·rw [if_pos c25] at H
             have c25b0 : decide (x8_2 < 0) = true := decide_eq_true c25
             clear c25
             have H' := Aside0.mk H
             clear H
             have p237 : 0 ≤ (x31_2 : Int) := of_decide_eq_true dg_
             have q237 : x31_2 < (t234.length : Int) := of_decide_eq_true dg_
             obtain ⟨ad237, e237, hx237_0⟩ := Kd.at_int (Kd.R_reads' HO_29.out).2.2 x31_2 p237 q237
             cases e237
             replace p237 := eq_true p237
             replace q237 := eq_true q237
             obtain ⟨Ao26, co26, eo26⟩ := Kd.R_slice HO_7.out
             subst eo26
             have p238 : 0 ≤ ((rd t234 x31_2) : Int) := of_decide_eq_true dg_
             have q238 : (rd t234 x31_2) < (t231.length : Int) := of_decide_eq_true dg_
             obtain ⟨ad238, e238, hx238_0⟩ := Kd.at_int (Kd.R_reads' HO_7.out).2.2 (rd t234 x31_2) p238 q238
             cases e238
             replace p238 := eq_true p238
             replace q238 := eq_true q238
             have p239 : 0 ≤ ((rd t234 x31_2) : Int) := of_decide_eq_true dg_
             have q239 : (rd t234 x31_2) < (t231.length : Int) := of_decide_eq_true dg_
             obtain ⟨ad239, e239, hx239_0⟩ := Kd.at_int (Kd.R_reads' HO_7.out).2.2 (rd t234 x31_2) p239 q239
             obtain rfl : ad238 = ad239 := (by injection e239)
             replace p239 := eq_true p239
             replace q239 := eq_true q239
             exact impl_StepsBetween.e1
            ·rw [if_neg c25] at H
             have c25b0 : decide (x8_2 < 0) = false := decide_eq_false c25
             clear c25
             by_cases c27 : (wrap64 ((rd t231 (rd t234 x31_2)) + 1)) < x8_2
             ·rw [if_pos c27] at H
              have c27b0 : decide ((wrap64 ((rd t231 (rd t234 x31_2)) + 1)) < x8_2) = true := decide_eq_true c27
              clear c27
              have H' := Aside0.mk H
              clear H
              have p237 : 0 ≤ (x31_2 : Int) := of_decide_eq_true dg_
              have q237 : x31_2 < (t234.length : Int) := of_decide_eq_true dg_
              obtain ⟨ad237, e237, hx237_0⟩ := Kd.at_int (Kd.R_reads' HO_29.out).2.2 x31_2 p237 q237
              cases e237
              replace p237 := eq_true p237
              replace q237 := eq_true q237
              obtain ⟨Ao28, co28, eo28⟩ := Kd.R_slice HO_7.out
              subst eo28
              have p238 : 0 ≤ ((rd t234 x31_2) : Int) := of_decide_eq_true dg_
              have q238 : (rd t234 x31_2) < (t231.length : Int) := of_decide_eq_true dg_
              obtain ⟨ad238, e238, hx238_0⟩ := Kd.at_int (Kd.R_reads' HO_7.out).2.2 (rd t234 x31_2) p238 q238
              cases e238
              replace p238 := eq_true p238
              replace q238 := eq_true q238
              have p240 : 0 ≤ ((rd t234 x31_2) : Int) := of_decide_eq_true dg_
              have q240 : (rd t234 x31_2) < (t231.length : Int) := of_decide_eq_true dg_
              obtain ⟨ad240, e240, hx240_0⟩ := Kd.at_int (Kd.R_reads' HO_7.out).2.2 (rd t234 x31_2) p240 q240
              obtain rfl : ad238 = ad240 := (by injection e240)
              replace p240 := eq_true p240
              replace q240 := eq_true q240
              have p241 : 0 ≤ ((rd t234 x31_2) : Int) := of_decide_eq_true dg_
              have q241 : (rd t234 x31_2) < (t231.length : Int) := of_decide_eq_true dg_
              obtain ⟨ad241, e241, hx241_0⟩ := Kd.at_int (Kd.R_reads' HO_7.out).2.2 (rd t234 x31_2) p241 q241
              obtain rfl : ad238 = ad241 := (by injection e241)
              replace p241 := eq_true p241
              replace q241 := eq_true q241
              exact impl_StepsBetween.e1
             ·rw [if_neg c27] at H
              have c27b0 : decide ((wrap64 ((rd t231 (rd t234 x31_2)) + 1)) < x8_2) = false := decide_eq_false c27
              clear c27
              have H' := Aside0.mk H
              clear H
              have p237 : 0 ≤ (x31_2 : Int) := of_decide_eq_true dg_
              have q237 : x31_2 < (t234.length : Int) := of_decide_eq_true dg_
              obtain ⟨ad237, e237, hx237_0⟩ := Kd.at_int (Kd.R_reads' HO_29.out).2.2 x31_2 p237 q237
              cases e237
              replace p237 := eq_true p237
              replace q237 := eq_true q237
              obtain ⟨Ao29, co29, eo29⟩ := Kd.R_slice HO_7.out
              subst eo29
              have p238 : 0 ≤ ((rd t234 x31_2) : Int) := of_decide_eq_true dg_
              have q238 : (rd t234 x31_2) < (t231.length : Int) := of_decide_eq_true dg_
              obtain ⟨ad238, e238, hx238_0⟩ := Kd.at_int (Kd.R_reads' HO_7.out).2.2 (rd t234 x31_2) p238 q238
              cases e238
              replace p238 := eq_true p238
              replace q238 := eq_true q238
              have p240 : 0 ≤ ((rd t234 x31_2) : Int) := of_decide_eq_true dg_
              have q240 : (rd t234 x31_2) < (t231.length : Int) := of_decide_eq_true dg_
              obtain ⟨ad240, e240, hx240_0⟩ := Kd.at_int (Kd.R_reads' HO_7.out).2.2 (rd t234 x31_2) p240 q240
              obtain rfl : ad238 = ad240 := (by injection e240)
              replace p240 := eq_true p240
              replace q240 := eq_true q240
              exact impl_StepsBetween.e2
           ·rw [if_neg c24] at H
            have c24b0 : decide (0 ≤ (rd t231 (rd t234 x31_2))) = false := decide_eq_false c24
            clear c24
            have H' := Aside0.mk H
            clear H
            have p237 : 0 ≤ (x31_2 : Int) := of_decide_eq_true dg_
            have q237 : x31_2 < (t234.length : Int) := of_decide_eq_true dg_
            obtain ⟨ad237, e237, hx237_0⟩ := Kd.at_int (Kd.R_reads' HO_29.out).2.2 x31_2 p237 q237
            cases e237
            replace p237 := eq_true p237
            replace q237 := eq_true q237
            obtain ⟨Ao30, co30, eo30⟩ := Kd.R_slice HO_7.out
            subst eo30
            have p238 : 0 ≤ ((rd t234 x31_2) : Int) := of_decide_eq_true dg_
            have q238 : (rd t234 x31_2) < (t231.length : Int) := of_decide_eq_true dg_
            obtain ⟨ad238, e238, hx238_0⟩ := Kd.at_int (Kd.R_reads' HO_7.out).2.2 (rd t234 x31_2) p238 q238
            cases e238
            replace p238 := eq_true p238
            replace q238 := eq_true q238
            exact impl_StepsBetween.e2
          ·rw [if_neg c23] at H
           exact absurd H (by simp)
         ·rw [if_neg c22] at H
          exact absurd H (by simp)
        ·rw [if_neg c21] at H
         exact absurd H (by simp)
       ·rw [if_neg c20] at H
        exact absurd H (by simp)
      ·rw [if_neg c19] at H
       have c19b0 : decide (x31_2 < (t234.length : Int)) = false := decide_eq_false c19
       clear c19
       obtain rfl := Option.some.inj H
       go_wp2
       go_ret
       exact ⟨fin_, bb_ HB.out⟩

/-! ### impl_cycleFrom: function 45 -/
mutual
def impl_cycleFrom.l0 : Nat → List (S44) → Int → List Int → List Int → Int → Option (List Int)
 | 0, _, _, _, _, _ => none
 | k + 1, x0, x1, x5, x6, x7 => (impl_SuccessorsOf.f k x0 x7).bind fun t248 => (impl_cycleFrom.l1 k x0 x1 x5 x6 x7 (-1) t248 (t248.length : Int) 0)
def impl_cycleFrom.l1 : Nat → List (S44) → Int → List Int → List Int → Int → Int → List Int → Int → Int → Option (List Int)
 | 0, _, _, _, _, _, _, _, _, _ => none
 | k + 1, x0, x1, x5, x6, x7, x8, x19, x20, x21 => if x21 < x20 then (if 0 ≤ x21 then (if x21 < (x19.length : Int) then (if (rd x19 x21) ≥ x1 then (if 0 ≤ (rd x19 x21) then (if (rd x19 x21) < (x5.length : Int) then (if (rd x5 (rd x19 x21)) ≥ 0 then (if x8 < 0 then (impl_cycleFrom.l1 k x0 x1 x5 x6 x7 (rd x19 x21) x19 x20 (wrap64 (x21 + 1))) else (if 0 ≤ x8 then (if x8 < (x5.length : Int) then (if (rd x5 (rd x19 x21)) < (rd x5 x8) then (impl_cycleFrom.l1 k x0 x1 x5 x6 x7 (rd x19 x21) x19 x20 (wrap64 (x21 + 1))) else (impl_cycleFrom.l1 k x0 x1 x5 x6 x7 x8 x19 x20 (wrap64 (x21 + 1)))) else (none)) else (none))) else (impl_cycleFrom.l1 k x0 x1 x5 x6 x7 x8 x19 x20 (wrap64 (x21 + 1)))) else (none)) else (none)) else (impl_cycleFrom.l1 k x0 x1 x5 x6 x7 x8 x19 x20 (wrap64 (x21 + 1)))) else (none)) else (none)) else (if x8 < 0 then (some ([] : List Int)) else (if x6.length < 17592186044416 then ((some (x6 ++ [x7] : List Int)).bind fun y255 => (if x8 = x1 then (some y255) else (impl_cycleFrom.l0 k x0 x1 x5 y255 x8))) else (none)))
end
def impl_cycleFrom.f (k : Nat) (l0 : List (S44)) (a1 : Int) : Option (List Int) := (impl_distancesTo.f k l0 a1 a1).bind fun t242 => (impl_cycleFrom.l0 k l0 a1 t242 (([] : List Int)) a1)
theorem impl_cycleFrom.mono_l : ∀ k, (∀ y0 y1 y2 y3 y4, LeO (impl_cycleFrom.l0 k y0 y1 y2 y3 y4) (impl_cycleFrom.l0 (k + 1) y0 y1 y2 y3 y4)) ∧ (∀ y0 y1 y2 y3 y4 y5 y6 y7 y8, LeO (impl_cycleFrom.l1 k y0 y1 y2 y3 y4 y5 y6 y7 y8) (impl_cycleFrom.l1 (k + 1) y0 y1 y2 y3 y4 y5 y6 y7 y8))
 | 0 => ⟨fun _ _ _ _ _ r h => by simp [impl_cycleFrom.l0] at h, fun _ _ _ _ _ _ _ _ _ r h => by simp [impl_cycleFrom.l1] at h⟩
 | k + 1 => by
  obtain ⟨ih0, ih1⟩ := impl_cycleFrom.mono_l k
  refine ⟨?_, ?_⟩
  ·intro y0 y1 y2 y3 y4
   unfold impl_cycleFrom.l0
   repeat' first
   | (with_reducible exact ih0 _ _ _ _ _)
   | (with_reducible exact ih1 _ _ _ _ _ _ _ _ _)
   | (with_reducible exact impl_SuccessorsOf.mono _ _ _)
   | (with_reducible exact impl_distancesTo.mono _ _ _ _)
   | (with_reducible exact LeO.refl _)
   | (with_reducible exact LeO.none _)
   | (with_reducible refine LeO.ite ?_ ?_)
   | (with_reducible refine LeO.bind ?_ (fun _ => ?_))
   | exact ih0 _ _ _ _ _
   | exact ih1 _ _ _ _ _ _ _ _ _
   | exact impl_SuccessorsOf.mono _ _ _
   | exact impl_distancesTo.mono _ _ _ _
   | exact LeO.none _
   | refine LeO.ite ?_ ?_
   | refine LeO.bind ?_ (fun _ => ?_)
  ·intro y0 y1 y2 y3 y4 y5 y6 y7 y8
   unfold impl_cycleFrom.l1
   repeat' first
   | (with_reducible exact ih0 _ _ _ _ _)
   | (with_reducible exact ih1 _ _ _ _ _ _ _ _ _)
   | (with_reducible exact impl_SuccessorsOf.mono _ _ _)
   | (with_reducible exact impl_distancesTo.mono _ _ _ _)
   | (with_reducible exact LeO.refl _)
   | (with_reducible exact LeO.none _)
   | (with_reducible refine LeO.ite ?_ ?_)
   | (with_reducible refine LeO.bind ?_ (fun _ => ?_))
   | exact ih0 _ _ _ _ _
   | exact ih1 _ _ _ _ _ _ _ _ _
   | exact impl_SuccessorsOf.mono _ _ _
   | exact impl_distancesTo.mono _ _ _ _
   | exact LeO.none _
   | refine LeO.ite ?_ ?_
   | refine LeO.bind ?_ (fun _ => ?_)
theorem impl_cycleFrom.mono : ∀ a0 a1 k, LeO (impl_cycleFrom.f k a0 a1) (impl_cycleFrom.f (k + 1) a0 a1) := by
 intro a0 a1 k
 obtain ⟨ih0, ih1⟩ := impl_cycleFrom.mono_l k
 unfold impl_cycleFrom.f
 repeat' first
   | (with_reducible exact ih0 _ _ _ _ _)
   | (with_reducible exact ih1 _ _ _ _ _ _ _ _ _)
   | (with_reducible exact impl_SuccessorsOf.mono _ _ _)
   | (with_reducible exact impl_distancesTo.mono _ _ _ _)
   | (with_reducible exact LeO.refl _)
   | (with_reducible exact LeO.none _)
   | (with_reducible refine LeO.ite ?_ ?_)
   | (with_reducible refine LeO.bind ?_ (fun _ => ?_))
   | exact ih0 _ _ _ _ _
   | exact ih1 _ _ _ _ _ _ _ _ _
   | exact impl_SuccessorsOf.mono _ _ _
   | exact impl_distancesTo.mono _ _ _ _
   | exact LeO.none _
   | refine LeO.ite ?_ ?_
   | refine LeO.bind ?_ (fun _ => ?_)
set_option maxHeartbeats 8000000 in
set_option maxRecDepth 100000 in
theorem impl_cycleFrom.callsN (k : Nat) (A0 : Option Addr) (c0 : Nat) (l0 : List (S44)) (a1 : Int) (r : List Int) (w : World) (hr0 : Kd.C k44 w A0 l0.length l0) (hc0 : l0.length ≤ c0) (h : impl_cycleFrom.f k l0 a1 = some r) :
  Calls Try.prog 45 #[.slice A0 l0.length c0, .int .i64 a1] w fun e w' => ∃ v0_ : Value, e = .returned (v0_) ∧ Kd.R (Kd.int .i64) 3 w' w.heap.size (fun _ => True) v0_ r ∧ Below w.heap.size w w' ∧ (r = [] → v0_ = .slice none 0 0) := by
 have HR0 := Aside0.mk hr0
 have HC0 := Aside0.mk hc0
 clear hr0 hc0
 have HB := Aside0.mk (Below.refl w.heap.size w)
 have H : ((impl_distancesTo.f k l0 a1 a1).bind fun t242 => (impl_cycleFrom.l0 k l0 a1 t242 (([] : List Int)) a1)) = some r := h
 clear h
 replace H := Option.bind_eq_some_iff.mp H
 obtain ⟨t242, A30, H⟩ := H
 try dsimp only at H
 have A3 := Aside0.mk A30
 clear A30
 obtain ⟨y245, hy245⟩ : ∃ y_ : List Int, y_ = (([] : List Int)) := ⟨_, rfl⟩
 replace H : (impl_cycleFrom.l0 k l0 a1 t242 y245 a1) = some r := by first | (rw [hy245]; with_reducible exact H) | (have H2_ := (Option.bind_some _ _).symm.trans H; rw [hy245]; with_reducible exact H2_) | (have H2_ := (Option.bind_some _ _).symm.trans H; with_reducible exact H2_) | with_reducible exact H | (rw [hy245]; exact H) | exact H
 have Ny245 := Aside0.mk hy245
 clear hy245
 have H' := Aside0.mk H
 clear H
 go_enter Try.func45, Try.ntmps45
 go_wp2_with (first | (go_at_call 35; (with_reducible refine (impl_distancesTo.calls k _ _ l0 a1 a1 t242 _ ?side1 HC0.out A3.out).mono ?_); (case side1 => repeat (first | exact HR0.out | (with_reducible refine Kd.C_alloc ?_ _) | (with_reducible refine Kd.C_drewN ?_ _) | (with_reducible refine Kd.C_drew ?_))); rintro e w4 ⟨v243, rfl, ho0, hb⟩; have HO244 := Aside0.mk (Kd.R_lower ho0 (bz_ HB.out)); replace HB := Aside0.mk (bs_ HB.out hb); (try clear hb); (try clear ho0)) | ((with_reducible refine gate_dst (N := 15) rfl ?_); refine Kd.R_lit (Kd.int .i64) _ 3 ?hg (N := 15) ?hd (xs := ([] : List Int)) (inner := []) (ok := fun _ => True) (okp := fun _ => True) ?hr ?hp (fun _ hk => hk) trivial (Below.refl _ _) (Nat.le_refl _) (by simp) ?_; (case hd => rfl); (case hg => rfl); (case hr => first | (go_simp; done) | (go_simp; rfl)); (case hp => exact (Reps.none _ _)); intro v246 w5 ho6 hb hg_ hnew_; clear hg_ hnew_; (first | rw [← Ny245.out] at ho6 | (simp only [Int.reduceToNat] at ho6; rw [← Ny245.out] at ho6)); have HO247 := Aside0.mk (Kd.R_lower (Kd.R_new' ho6 (rl_ HO244.out)) (bz_ HB.out)); replace HO244 := Aside0.mk (Kd.R_elder' (ra_ HO244.out) (Kd.R_base ho6) hb); replace HB := Aside0.mk (bs_ HB.out hb); clear hb ho6))
 repeat (go_quiet (first | (go_at_call 35; (with_reducible refine (impl_distancesTo.calls k _ _ l0 a1 a1 t242 _ ?side1 HC0.out A3.out).mono ?_); (case side1 => repeat (first | exact HR0.out | (with_reducible refine Kd.C_alloc ?_ _) | (with_reducible refine Kd.C_drewN ?_ _) | (with_reducible refine Kd.C_drew ?_))); rintro e w4 ⟨v243, rfl, ho0, hb⟩; have HO244 := Aside0.mk (Kd.R_lower ho0 (bz_ HB.out)); replace HB := Aside0.mk (bs_ HB.out hb); (try clear hb); (try clear ho0)) | ((with_reducible refine gate_dst (N := 15) rfl ?_); refine Kd.R_lit (Kd.int .i64) _ 3 ?hg (N := 15) ?hd (xs := ([] : List Int)) (inner := []) (ok := fun _ => True) (okp := fun _ => True) ?hr ?hp (fun _ hk => hk) trivial (Below.refl _ _) (Nat.le_refl _) (by simp) ?_; (case hd => rfl); (case hg => rfl); (case hr => first | (go_simp; done) | (go_simp; rfl)); (case hp => exact (Reps.none _ _)); intro v246 w5 ho6 hb hg_ hnew_; clear hg_ hnew_; (first | rw [← Ny245.out] at ho6 | (simp only [Int.reduceToNat] at ho6; rw [← Ny245.out] at ho6)); have HO247 := Aside0.mk (Kd.R_lower (Kd.R_new' ho6 (rl_ HO244.out)) (bz_ HB.out)); replace HO244 := Aside0.mk (Kd.R_elder' (ra_ HO244.out) (Kd.R_base ho6) hb); replace HB := Aside0.mk (bs_ HB.out hb); clear hb ho6)); try go_wp2_with (first | (go_at_call 35; (with_reducible refine (impl_distancesTo.calls k _ _ l0 a1 a1 t242 _ ?side1 HC0.out A3.out).mono ?_); (case side1 => repeat (first | exact HR0.out | (with_reducible refine Kd.C_alloc ?_ _) | (with_reducible refine Kd.C_drewN ?_ _) | (with_reducible refine Kd.C_drew ?_))); rintro e w4 ⟨v243, rfl, ho0, hb⟩; have HO244 := Aside0.mk (Kd.R_lower ho0 (bz_ HB.out)); replace HB := Aside0.mk (bs_ HB.out hb); (try clear hb); (try clear ho0)) | ((with_reducible refine gate_dst (N := 15) rfl ?_); refine Kd.R_lit (Kd.int .i64) _ 3 ?hg (N := 15) ?hd (xs := ([] : List Int)) (inner := []) (ok := fun _ => True) (okp := fun _ => True) ?hr ?hp (fun _ hk => hk) trivial (Below.refl _ _) (Nat.le_refl _) (by simp) ?_; (case hd => rfl); (case hg => rfl); (case hr => first | (go_simp; done) | (go_simp; rfl)); (case hp => exact (Reps.none _ _)); intro v246 w5 ho6 hb hg_ hnew_; clear hg_ hnew_; (first | rw [← Ny245.out] at ho6 | (simp only [Int.reduceToNat] at ho6; rw [← Ny245.out] at ho6)); have HO247 := Aside0.mk (Kd.R_lower (Kd.R_new' ho6 (rl_ HO244.out)) (bz_ HB.out)); replace HO244 := Aside0.mk (Kd.R_elder' (ra_ HO244.out) (Kd.R_base ho6) hb); replace HB := Aside0.mk (bs_ HB.out hb); clear hb ho6)))
 go_loopg [6, 7] k (fun kq v6 v7 w' => ∃ (x6_1 : List Int) (x7_1 : Int), v7 = .int .i64 x7_1 ∧ Aside0 (impl_cycleFrom.l0 kq l0 a1 t242 x6_1 x7_1 = some r) ∧ Aside0 (kq ≤ k) ∧ Aside0 (Kd.R (Kd.int .i64) 3 w' w.heap.size (fun k_ => some k_ ≠ (v6 : Value).ownBlock) v243 t242) ∧ Aside0 (Kd.R (Kd.int .i64) 3 w' w.heap.size (fun k_ => some k_ ≠ (v243 : Value).ownBlock) v6 x6_1) ∧ Aside0 (Below w.heap.size w w'))
 case atStart => exact ⟨(y245), (a1), ef_, H', ⟨Nat.le_refl _⟩, ⟨by (with_reducible repeat (first | apply Kd.R_alloc | apply Kd.R_drewN | apply Kd.R_drew)); exact Kd.R_mono HO244.out (fun _ hk => hk.2)⟩, ⟨by (with_reducible repeat (first | apply Kd.R_alloc | apply Kd.R_drewN | apply Kd.R_drew)); exact Kd.R_mono HO247.out (fun _ hk => hk.2)⟩, ⟨bb_ HB.out⟩⟩
 case round =>
  clear H'
  try clear p2
  try clear c4
  obtain ⟨x6_1, x7_1, rfl, HA, HK1, HO_5, HO_6, HB⟩ := hrel
  cases gk with
  | zero => exact absurd HA.out (by simp [impl_cycleFrom.l0])
  | succ k1 =>
   have H := HA.out
   clear HA
   simp only [impl_cycleFrom.l0] at H
   replace H := Option.bind_eq_some_iff.mp H
   obtain ⟨t248, A70, H⟩ := H
   try dsimp only at H
   have A7 := Aside0.mk A70
   clear A70
   have H' := Aside0.mk H
   clear H
   go_wp2_with (first | (go_at_call 36; (with_reducible refine (impl_SuccessorsOf.calls k1 _ _ l0 x7_1 t248 _ ?side1 HC0.out A7.out).mono ?_); (case side1 => exact cb_ HR0.out HB.out); rintro e w8 ⟨v249, rfl, ho0, hb⟩; have HO250 := Aside0.mk (Kd.R_lower (Kd.R_new' (Kd.R_new' ho0 (rl_ HO_5.out)) (rl_ HO_6.out)) (bz_ HB.out)); replace HO_5 := Aside0.mk (Kd.R_elder' (ra_ HO_5.out) (Kd.R_base ho0) hb); replace HO_6 := Aside0.mk (Kd.R_elder' (ra_ HO_6.out) (Kd.R_base ho0) hb); replace HB := Aside0.mk (bs_ HB.out hb); (try clear hb); (try clear ho0); obtain ⟨Ao9, co9, eo9⟩ := Kd.R_slice HO250.out; subst eo9))
   repeat (go_quiet (first | (go_at_call 36; (with_reducible refine (impl_SuccessorsOf.calls k1 _ _ l0 x7_1 t248 _ ?side1 HC0.out A7.out).mono ?_); (case side1 => exact cb_ HR0.out HB.out); rintro e w8 ⟨v249, rfl, ho0, hb⟩; have HO250 := Aside0.mk (Kd.R_lower (Kd.R_new' (Kd.R_new' ho0 (rl_ HO_5.out)) (rl_ HO_6.out)) (bz_ HB.out)); replace HO_5 := Aside0.mk (Kd.R_elder' (ra_ HO_5.out) (Kd.R_base ho0) hb); replace HO_6 := Aside0.mk (Kd.R_elder' (ra_ HO_6.out) (Kd.R_base ho0) hb); replace HB := Aside0.mk (bs_ HB.out hb); (try clear hb); (try clear ho0); obtain ⟨Ao9, co9, eo9⟩ := Kd.R_slice HO250.out; subst eo9)); try go_wp2_with (first | (go_at_call 36; (with_reducible refine (impl_SuccessorsOf.calls k1 _ _ l0 x7_1 t248 _ ?side1 HC0.out A7.out).mono ?_); (case side1 => exact cb_ HR0.out HB.out); rintro e w8 ⟨v249, rfl, ho0, hb⟩; have HO250 := Aside0.mk (Kd.R_lower (Kd.R_new' (Kd.R_new' ho0 (rl_ HO_5.out)) (rl_ HO_6.out)) (bz_ HB.out)); replace HO_5 := Aside0.mk (Kd.R_elder' (ra_ HO_5.out) (Kd.R_base ho0) hb); replace HO_6 := Aside0.mk (Kd.R_elder' (ra_ HO_6.out) (Kd.R_base ho0) hb); replace HB := Aside0.mk (bs_ HB.out hb); (try clear hb); (try clear ho0); obtain ⟨Ao9, co9, eo9⟩ := Kd.R_slice HO250.out; subst eo9)))
   go_loopg [8, 21] k1 (fun kq v8 v21 w' => ∃ (x8_2 : Int) (x21_2 : Int), v8 = .int .i64 x8_2 ∧ v21 = .int .i64 x21_2 ∧ Aside0 (impl_cycleFrom.l1 kq l0 a1 t242 x6_1 x7_1 x8_2 t248 (t248.length : Int) x21_2 = some r) ∧ Aside0 (kq ≤ k1) ∧ Aside0 (Kd.R (Kd.int .i64) 3 w' w.heap.size (fun k_ => some k_ ≠ (u6 : Value).ownBlock ∧ some k_ ≠ ((.slice Ao9 t248.length co9) : Value).ownBlock) v243 t242) ∧ Aside0 (Kd.R (Kd.int .i64) 3 w' w.heap.size (fun k_ => some k_ ≠ (v243 : Value).ownBlock ∧ some k_ ≠ ((.slice Ao9 t248.length co9) : Value).ownBlock) u6 x6_1) ∧ Aside0 (Kd.R (Kd.int .i64) 3 w' w.heap.size (fun k_ => some k_ ≠ (v243 : Value).ownBlock ∧ some k_ ≠ (u6 : Value).ownBlock) (.slice Ao9 t248.length co9) t248) ∧ Aside0 (Below w.heap.size w w'))
   case atStart => exact ⟨((-1)), (0), ef_, ef_, H', ⟨Nat.le_refl _⟩, ⟨by (with_reducible repeat (first | apply Kd.R_alloc | apply Kd.R_drewN | apply Kd.R_drew)); exact HO_5.out⟩, ⟨by (with_reducible repeat (first | apply Kd.R_alloc | apply Kd.R_drewN | apply Kd.R_drew)); exact HO_6.out⟩, ⟨by (with_reducible repeat (first | apply Kd.R_alloc | apply Kd.R_drewN | apply Kd.R_drew)); exact Kd.R_mono HO250.out (fun _ hk => ⟨hk.1.2, hk.2⟩)⟩, ⟨bb_ HB.out⟩⟩
   case round =>
    clear H'
    try clear p2
    try clear c4
    try clear p2
    obtain ⟨x8_2, x21_2, rfl, rfl, HA, HK2, HO_5, HO_6, HO_19, HB⟩ := hrel
    cases gk with
    | zero => exact absurd HA.out (by simp [impl_cycleFrom.l1])
    | succ k2 =>
     have H := HA.out
     clear HA
     simp only [impl_cycleFrom.l1] at H
     by_cases c10 : x21_2 < (t248.length : Int)
     ·rw [if_pos c10] at H
      have c10b0 : decide (x21_2 < (t248.length : Int)) = true := decide_eq_true c10
      clear c10
      by_cases c11 : 0 ≤ x21_2
      ·rw [if_pos c11] at H
       have c11b0 : decide (0 ≤ x21_2) = true := decide_eq_true c11
       clear c11
       by_cases c12 : x21_2 < (t248.length : Int)
       ·rw [if_pos c12] at H
        have c12b0 : decide (x21_2 < (t248.length : Int)) = true := decide_eq_true c12
        clear c12
        by_cases c13 : (rd t248 x21_2) ≥ a1
        ·rw [if_pos c13] at H
         have c13b0 : decide (a1 ≤ (rd t248 x21_2)) = true := decide_eq_true c13
         clear c13
         by_cases c14 : 0 ≤ (rd t248 x21_2)
         ·rw [if_pos c14] at H
          have c14b0 : decide (0 ≤ (rd t248 x21_2)) = true := decide_eq_true c14
          clear c14
          by_cases c15 : (rd t248 x21_2) < (t242.length : Int)
          ·rw [if_pos c15] at H
           have c15b0 : decide ((rd t248 x21_2) < (t242.length : Int)) = true := decide_eq_true c15
           clear c15
           by_cases c16 : (rd t242 (rd t248 x21_2)) ≥ 0
           ·rw [if_pos c16] at H
            have c16b0 : decide (0 ≤ (rd t242 (rd t248 x21_2))) = true := decide_eq_true c16
            clear c16
            by_cases c17 : x8_2 < 0
            ·rw [if_pos c17] at H
             have c17b0 : decide (x8_2 < 0) = true := decide_eq_true c17
             clear c17
             have H' := Aside0.mk H
             clear H
             have p251 : 0 ≤ (x21_2 : Int) := of_decide_eq_true dg_
             have q251 : x21_2 < (t248.length : Int) := of_decide_eq_true dg_
             obtain ⟨ad251, e251, hx251_0⟩ := Kd.at_int (Kd.R_reads' HO_19.out).2.2 x21_2 p251 q251
             cases e251
             replace p251 := eq_true p251
             replace q251 := eq_true q251
             obtain ⟨Ao18, co18, eo18⟩ := Kd.R_slice HO_5.out
             subst eo18
             have p252 : 0 ≤ ((rd t248 x21_2) : Int) := of_decide_eq_true dg_
             have q252 : (rd t248 x21_2) < (t242.length : Int) := of_decide_eq_true dg_
             obtain ⟨ad252, e252, hx252_0⟩ := Kd.at_int (Kd.R_reads' HO_5.out).2.2 (rd t248 x21_2) p252 q252
             cases e252
             replace p252 := eq_true p252
             replace q252 := eq_true q252
             go_wp2
             repeat (go_quiet (fail); try go_wp2)
             go_roundg k2
             case measure => have := HK1.out; have := HK2.out; omega
             case rel => exact ⟨(rd t248 x21_2), (wrap64 (x21_2 + 1)), ef_, ef_, H', ⟨by have := HK1.out; have := HK2.out; omega⟩, ⟨by (with_reducible repeat (first | apply Kd.R_alloc | apply Kd.R_drewN | apply Kd.R_drew)); exact HO_5.out⟩, ⟨by (with_reducible repeat (first | apply Kd.R_alloc | apply Kd.R_drewN | apply Kd.R_drew)); exact HO_6.out⟩, ⟨by (with_reducible repeat (first | apply Kd.R_alloc | apply Kd.R_drewN | apply Kd.R_drew)); exact HO_19.out⟩, ⟨bb_ HB.out⟩⟩
            ·rw [if_neg c17] at H
             have c17b0 : decide (x8_2 < 0) = false := decide_eq_false c17
             clear c17
             by_cases c19 : 0 ≤ x8_2
             ·rw [if_pos c19] at H
              have c19b0 : decide (0 ≤ x8_2) = true := decide_eq_true c19
              clear c19
              by_cases c20 : x8_2 < (t242.length : Int)
              ·rw [if_pos c20] at H
               have c20b0 : decide (x8_2 < (t242.length : Int)) = true := decide_eq_true c20
               clear c20
               by_cases c21 : (rd t242 (rd t248 x21_2)) < (rd t242 x8_2)
               ·rw [if_pos c21] at H
                have c21b0 : decide ((rd t242 (rd t248 x21_2)) < (rd t242 x8_2)) = true := decide_eq_true c21
                clear c21
                have H' := Aside0.mk H
                clear H
                have p251 : 0 ≤ (x21_2 : Int) := of_decide_eq_true dg_
                have q251 : x21_2 < (t248.length : Int) := of_decide_eq_true dg_
                obtain ⟨ad251, e251, hx251_0⟩ := Kd.at_int (Kd.R_reads' HO_19.out).2.2 x21_2 p251 q251
                cases e251
                replace p251 := eq_true p251
                replace q251 := eq_true q251
                obtain ⟨Ao22, co22, eo22⟩ := Kd.R_slice HO_5.out
                subst eo22
                have p252 : 0 ≤ ((rd t248 x21_2) : Int) := of_decide_eq_true dg_
                have q252 : (rd t248 x21_2) < (t242.length : Int) := of_decide_eq_true dg_
                obtain ⟨ad252, e252, hx252_0⟩ := Kd.at_int (Kd.R_reads' HO_5.out).2.2 (rd t248 x21_2) p252 q252
                cases e252
                replace p252 := eq_true p252
                replace q252 := eq_true q252
                have p253 : 0 ≤ ((rd t248 x21_2) : Int) := of_decide_eq_true dg_
                have q253 : (rd t248 x21_2) < (t242.length : Int) := of_decide_eq_true dg_
                obtain ⟨ad253, e253, hx253_0⟩ := Kd.at_int (Kd.R_reads' HO_5.out).2.2 (rd t248 x21_2) p253 q253
                obtain rfl : ad252 = ad253 := (by injection e253)
                replace p253 := eq_true p253
                replace q253 := eq_true q253
                have p254 : 0 ≤ (x8_2 : Int) := of_decide_eq_true dg_
                have q254 : x8_2 < (t242.length : Int) := of_decide_eq_true dg_
                obtain ⟨ad254, e254, hx254_0⟩ := Kd.at_int (Kd.R_reads' HO_5.out).2.2 x8_2 p254 q254
                obtain rfl : ad252 = ad254 := (by injection e254)
                replace p254 := eq_true p254
                replace q254 := eq_true q254
                go_wp2
                repeat (go_quiet (fail); try go_wp2)
                go_roundg k2
                case measure => have := HK1.out; have := HK2.out; omega
                case rel => exact ⟨(rd t248 x21_2), (wrap64 (x21_2 + 1)), ef_, ef_, H', ⟨by have := HK1.out; have := HK2.out; omega⟩, ⟨by (with_reducible repeat (first | apply Kd.R_alloc | apply Kd.R_drewN | apply Kd.R_drew)); exact HO_5.out⟩, ⟨by (with_reducible repeat (first | apply Kd.R_alloc | apply Kd.R_drewN | apply Kd.R_drew)); exact HO_6.out⟩, ⟨by (with_reducible repeat (first | apply Kd.R_alloc | apply Kd.R_drewN | apply Kd.R_drew)); exact HO_19.out⟩, ⟨bb_ HB.out⟩⟩
               ·rw [if_neg c21] at H
                have c21b0 : decide ((rd t242 (rd t248 x21_2)) < (rd t242 x8_2)) = false := decide_eq_false c21
                clear c21
                have H' := Aside0.mk H
                clear H
                have p251 : 0 ≤ (x21_2 : Int) := of_decide_eq_true dg_
                have q251 : x21_2 < (t248.length : Int) := of_decide_eq_true dg_
                obtain ⟨ad251, e251, hx251_0⟩ := Kd.at_int (Kd.R_reads' HO_19.out).2.2 x21_2 p251 q251
                cases e251
                replace p251 := eq_true p251
                replace q251 := eq_true q251
                obtain ⟨Ao23, co23, eo23⟩ := Kd.R_slice HO_5.out
                subst eo23
                have p252 : 0 ≤ ((rd t248 x21_2) : Int) := of_decide_eq_true dg_
                have q252 : (rd t248 x21_2) < (t242.length : Int) := of_decide_eq_true dg_
                obtain ⟨ad252, e252, hx252_0⟩ := Kd.at_int (Kd.R_reads' HO_5.out).2.2 (rd t248 x21_2) p252 q252
                cases e252
                replace p252 := eq_true p252
                replace q252 := eq_true q252
                have p253 : 0 ≤ ((rd t248 x21_2) : Int) := of_decide_eq_true dg_
                have q253 : (rd t248 x21_2) < (t242.length : Int) := of_decide_eq_true dg_
                obtain ⟨ad253, e253, hx253_0⟩ := Kd.at_int (Kd.R_reads' HO_5.out).2.2 (rd t248 x21_2) p253 q253
                obtain rfl : ad252 = ad253 := (by injection e253)
                replace p253 := eq_true p253
                replace q253 := eq_true q253
                have p254 : 0 ≤ (x8_2 : Int) := of_decide_eq_true dg_
                have q254 : x8_2 < (t242.length : Int) := of_decide_eq_true dg_
                obtain ⟨ad254, e254, hx254_0⟩ := Kd.at_int (Kd.R_reads' HO_5.out).2.2 x8_2 p254 q254
                obtain rfl : ad252 = ad254 := (by injection e254)
                replace p254 := eq_true p254
                replace q254 := eq_true q254
                go_wp2
                repeat (go_quiet (fail); try go_wp2)
                go_roundg k2
                case measure => have := HK1.out; have := HK2.out; omega
                case rel => exact ⟨(x8_2), (wrap64 (x21_2 + 1)), ef_, ef_, H', ⟨by have := HK1.out; have := HK2.out; omega⟩, ⟨by (with_reducible repeat (first | apply Kd.R_alloc | apply Kd.R_drewN | apply Kd.R_drew)); exact HO_5.out⟩, ⟨by (with_reducible repeat (first | apply Kd.R_alloc | apply Kd.R_drewN | apply Kd.R_drew)); exact HO_6.out⟩, ⟨by (with_reducible repeat (first | apply Kd.R_alloc | apply Kd.R_drewN | apply Kd.R_drew)); exact HO_19.out⟩, ⟨bb_ HB.out⟩⟩
              ·rw [if_neg c20] at H
               exact absurd H (by simp)
             ·rw [if_neg c19] at H
              exact absurd H (by simp)
           ·rw [if_neg c16] at H
            have c16b0 : decide (0 ≤ (rd t242 (rd t248 x21_2))) = false := decide_eq_false c16
            clear c16
            have H' := Aside0.mk H
            clear H
            have p251 : 0 ≤ (x21_2 : Int) := of_decide_eq_true dg_
            have q251 : x21_2 < (t248.length : Int) := of_decide_eq_true dg_
            obtain ⟨ad251, e251, hx251_0⟩ := Kd.at_int (Kd.R_reads' HO_19.out).2.2 x21_2 p251 q251
            cases e251
            replace p251 := eq_true p251
            replace q251 := eq_true q251
            obtain ⟨Ao24, co24, eo24⟩ := Kd.R_slice HO_5.out
            subst eo24
            have p252 : 0 ≤ ((rd t248 x21_2) : Int) := of_decide_eq_true dg_
            have q252 : (rd t248 x21_2) < (t242.length : Int) := of_decide_eq_true dg_
            obtain ⟨ad252, e252, hx252_0⟩ := Kd.at_int (Kd.R_reads' HO_5.out).2.2 (rd t248 x21_2) p252 q252
            cases e252
            replace p252 := eq_true p252
            replace q252 := eq_true q252
            go_wp2
            repeat (go_quiet (fail); try go_wp2)
            go_roundg k2
            case measure => have := HK1.out; have := HK2.out; omega
            case rel => exact ⟨(x8_2), (wrap64 (x21_2 + 1)), ef_, ef_, H', ⟨by have := HK1.out; have := HK2.out; omega⟩, ⟨by (with_reducible repeat (first | apply Kd.R_alloc | apply Kd.R_drewN | apply Kd.R_drew)); exact HO_5.out⟩, ⟨by (with_reducible repeat (first | apply Kd.R_alloc | apply Kd.R_drewN | apply Kd.R_drew)); exact HO_6.out⟩, ⟨by (with_reducible repeat (first | apply Kd.R_alloc | apply Kd.R_drewN | apply Kd.R_drew)); exact HO_19.out⟩, ⟨bb_ HB.out⟩⟩
          ·rw [if_neg c15] at H
           exact absurd H (by simp)
         ·rw [if_neg c14] at H
          exact absurd H (by simp)
        ·rw [if_neg c13] at H
         have c13b0 : decide (a1 ≤ (rd t248 x21_2)) = false := decide_eq_false c13
         clear c13
         have H' := Aside0.mk H
         clear H
         have p251 : 0 ≤ (x21_2 : Int) := of_decide_eq_true dg_
         have q251 : x21_2 < (t248.length : Int) := of_decide_eq_true dg_
         obtain ⟨ad251, e251, hx251_0⟩ := Kd.at_int (Kd.R_reads' HO_19.out).2.2 x21_2 p251 q251
         cases e251
         replace p251 := eq_true p251
         replace q251 := eq_true q251
         go_wp2
         repeat (go_quiet (fail); try go_wp2)
         go_roundg k2
         case measure => have := HK1.out; have := HK2.out; omega
         case rel => exact ⟨(x8_2), (wrap64 (x21_2 + 1)), ef_, ef_, H', ⟨by have := HK1.out; have := HK2.out; omega⟩, ⟨by (with_reducible repeat (first | apply Kd.R_alloc | apply Kd.R_drewN | apply Kd.R_drew)); exact HO_5.out⟩, ⟨by (with_reducible repeat (first | apply Kd.R_alloc | apply Kd.R_drewN | apply Kd.R_drew)); exact HO_6.out⟩, ⟨by (with_reducible repeat (first | apply Kd.R_alloc | apply Kd.R_drewN | apply Kd.R_drew)); exact HO_19.out⟩, ⟨bb_ HB.out⟩⟩
       ·rw [if_neg c12] at H
        exact absurd H (by simp)
      ·rw [if_neg c11] at H
       exact absurd H (by simp)
     ·rw [if_neg c10] at H
      have c10b0 : decide (x21_2 < (t248.length : Int)) = false := decide_eq_false c10
      clear c10
      by_cases c25 : x8_2 < 0
      ·rw [if_pos c25] at H
       have c25b0 : decide (x8_2 < 0) = true := decide_eq_true c25
       clear c25
       obtain rfl := Option.some.inj H
       go_wp2
       repeat (go_quiet (fail); try go_wp2)
       go_ret
       exact ⟨_, fin_, by first | exact Kd.R_nil _ _ _ _ _ | exact Kd.N_nil _ _ _ _ _ | exact Kd.V_nil _ _ _ _ _ | exact Kd.Q_nil _ _ _ _ _ | exact Kd.S_nil _ _ _ _ _, bb_ HB.out, by first | rfl | (intro e_; first | rfl | (exfalso; simp [Ny245.out] at e_; done) | (exfalso; simp [Ny255.out] at e_; done))⟩
      ·rw [if_neg c25] at H
       have c25b0 : decide (x8_2 < 0) = false := decide_eq_false c25
       clear c25
       by_cases c26 : x6_1.length < 17592186044416
       ·rw [if_pos c26] at H
        have LMc26 := Aside0.mk c26
        clear c26
        obtain ⟨y255, hy255⟩ : ∃ y_ : List Int, y_ = (x6_1 ++ [x7_1]) := ⟨_, rfl⟩
        replace H : (if x8_2 = a1 then (some y255) else (impl_cycleFrom.l0 k2 l0 a1 t242 y255 x8_2)) = some r := by first | (rw [hy255]; with_reducible exact H) | (have H2_ := (Option.bind_some _ _).symm.trans H; rw [hy255]; with_reducible exact H2_) | (have H2_ := (Option.bind_some _ _).symm.trans H; with_reducible exact H2_) | with_reducible exact H | (rw [hy255]; exact H) | exact H
        have Ny255 := Aside0.mk hy255
        clear hy255
        by_cases c27 : x8_2 = a1
        ·rw [if_pos c27] at H
         have c27b0 : (x8_2 == a1) = true := beq_iff_eq.mpr c27
         have c27b1 : (x8_2 != a1) = false := bne_eq_false_iff_eq.mpr c27
         clear c27
         obtain rfl := Option.some.inj H
         go_wp2_with (first | ((with_reducible refine gate_builtin (b := .append) (xs := #[.tmp 54, .tmp 56]) rfl ?_); at_builtin; refine Kd.R_append (Kd.int .i64) (w0 := w) w.heap.size rfl (.tmp 54) (.tmp 56) 26 3 (.int .i64 0) 8 rfl Try.underlying26 info3 rfl (by decide) (by omega) u6 x6_1 x7_1 [.int .i64 x7_1] (fun k_ => some k_ ≠ (v243 : Value).ownBlock ∧ some k_ ≠ (.slice Ao9 t248.length co9 : Value).ownBlock) (fun _ => False) rfl rfl ?aP (fun _ hk => hk.elim) ?aF ?aO ?aB ?aS ?aL ?_; (case aP => exact rfl); (case aB => exact (by repeat (first | (with_reducible first | exact HB.out | apply below_alloc | apply pw_below_drewN | apply below_drew1) | exact HB.out))); (case aF => exact (fun k_ hk => ⟨Kd.fresh' (rl_ HO_5.out) k_ hk, Kd.fresh' (rl_ HO_19.out) k_ hk⟩)); (case aO => exact (ra_ HO_6.out)); (case aS => exact (bz_ HB.out)); (case aL => have := LMc26.out; omega); intro v256 w28 ho hb hg hat; rw [← Ny255.out] at ho; have n0_ := Aside0.mk (Kd.R_after (ok := (fun k_ => some k_ ≠ (.slice Ao9 t248.length co9 : Value).ownBlock)) (by (with_reducible repeat (first | apply Kd.R_alloc | apply Kd.R_drewN | apply Kd.R_drew)); exact Kd.R_mono HO_5.out (fun _ hk => ⟨hk.2, hk.1⟩)) hg hat); have n1_ := Aside0.mk (Kd.R_after (ok := (fun k_ => some k_ ≠ (v243 : Value).ownBlock)) (ra_ HO_19.out) hg hat); have n2_ := Aside0.mk (hb); have n3_ := Aside0.mk (ho); clear HO_5; clear HO_19; clear HB; clear HO_6; have HO_5 := n0_; have HO_19 := n1_; have HB := n2_; have HO257 := n3_; clear n0_ n1_ n2_ n3_; clear ho hb hg hat))
         repeat (go_quiet (first | ((with_reducible refine gate_builtin (b := .append) (xs := #[.tmp 54, .tmp 56]) rfl ?_); at_builtin; refine Kd.R_append (Kd.int .i64) (w0 := w) w.heap.size rfl (.tmp 54) (.tmp 56) 26 3 (.int .i64 0) 8 rfl Try.underlying26 info3 rfl (by decide) (by omega) u6 x6_1 x7_1 [.int .i64 x7_1] (fun k_ => some k_ ≠ (v243 : Value).ownBlock ∧ some k_ ≠ (.slice Ao9 t248.length co9 : Value).ownBlock) (fun _ => False) rfl rfl ?aP (fun _ hk => hk.elim) ?aF ?aO ?aB ?aS ?aL ?_; (case aP => exact rfl); (case aB => exact (by repeat (first | (with_reducible first | exact HB.out | apply below_alloc | apply pw_below_drewN | apply below_drew1) | exact HB.out))); (case aF => exact (fun k_ hk => ⟨Kd.fresh' (rl_ HO_5.out) k_ hk, Kd.fresh' (rl_ HO_19.out) k_ hk⟩)); (case aO => exact (ra_ HO_6.out)); (case aS => exact (bz_ HB.out)); (case aL => have := LMc26.out; omega); intro v256 w28 ho hb hg hat; rw [← Ny255.out] at ho; have n0_ := Aside0.mk (Kd.R_after (ok := (fun k_ => some k_ ≠ (.slice Ao9 t248.length co9 : Value).ownBlock)) (by (with_reducible repeat (first | apply Kd.R_alloc | apply Kd.R_drewN | apply Kd.R_drew)); exact Kd.R_mono HO_5.out (fun _ hk => ⟨hk.2, hk.1⟩)) hg hat); have n1_ := Aside0.mk (Kd.R_after (ok := (fun k_ => some k_ ≠ (v243 : Value).ownBlock)) (ra_ HO_19.out) hg hat); have n2_ := Aside0.mk (hb); have n3_ := Aside0.mk (ho); clear HO_5; clear HO_19; clear HB; clear HO_6; have HO_5 := n0_; have HO_19 := n1_; have HB := n2_; have HO257 := n3_; clear n0_ n1_ n2_ n3_; clear ho hb hg hat)); try go_wp2_with (first | ((with_reducible refine gate_builtin (b := .append) (xs := #[.tmp 54, .tmp 56]) rfl ?_); at_builtin; refine Kd.R_append (Kd.int .i64) (w0 := w) w.heap.size rfl (.tmp 54) (.tmp 56) 26 3 (.int .i64 0) 8 rfl Try.underlying26 info3 rfl (by decide) (by omega) u6 x6_1 x7_1 [.int .i64 x7_1] (fun k_ => some k_ ≠ (v243 : Value).ownBlock ∧ some k_ ≠ (.slice Ao9 t248.length co9 : Value).ownBlock) (fun _ => False) rfl rfl ?aP (fun _ hk => hk.elim) ?aF ?aO ?aB ?aS ?aL ?_; (case aP => exact rfl); (case aB => exact (by repeat (first | (with_reducible first | exact HB.out | apply below_alloc | apply pw_below_drewN | apply below_drew1) | exact HB.out))); (case aF => exact (fun k_ hk => ⟨Kd.fresh' (rl_ HO_5.out) k_ hk, Kd.fresh' (rl_ HO_19.out) k_ hk⟩)); (case aO => exact (ra_ HO_6.out)); (case aS => exact (bz_ HB.out)); (case aL => have := LMc26.out; omega); intro v256 w28 ho hb hg hat; rw [← Ny255.out] at ho; have n0_ := Aside0.mk (Kd.R_after (ok := (fun k_ => some k_ ≠ (.slice Ao9 t248.length co9 : Value).ownBlock)) (by (with_reducible repeat (first | apply Kd.R_alloc | apply Kd.R_drewN | apply Kd.R_drew)); exact Kd.R_mono HO_5.out (fun _ hk => ⟨hk.2, hk.1⟩)) hg hat); have n1_ := Aside0.mk (Kd.R_after (ok := (fun k_ => some k_ ≠ (v243 : Value).ownBlock)) (ra_ HO_19.out) hg hat); have n2_ := Aside0.mk (hb); have n3_ := Aside0.mk (ho); clear HO_5; clear HO_19; clear HB; clear HO_6; have HO_5 := n0_; have HO_19 := n1_; have HB := n2_; have HO257 := n3_; clear n0_ n1_ n2_ n3_; clear ho hb hg hat)))
         go_ret
         exact ⟨_, fin_, by (with_reducible repeat (first | apply Kd.R_alloc | apply Kd.R_drewN | apply Kd.R_drew)); exact Kd.R_mono HO257.out (fun _ hk => trivial), bb_ HB.out, by first | rfl | (intro e_; first | rfl | (exfalso; simp [Ny245.out] at e_; done) | (exfalso; simp [Ny255.out] at e_; done))⟩
        ·rw [if_neg c27] at H
         have c27b0 : (x8_2 == a1) = false := beq_eq_false_iff_ne.mpr c27
         have c27b1 : (x8_2 != a1) = true := bne_iff_ne.mpr c27
         have H' := Aside0.mk H
         clear H
         go_wp2_with (first | ((with_reducible refine gate_builtin (b := .append) (xs := #[.tmp 54, .tmp 56]) rfl ?_); at_builtin; refine Kd.R_append (Kd.int .i64) (w0 := w) w.heap.size rfl (.tmp 54) (.tmp 56) 26 3 (.int .i64 0) 8 rfl Try.underlying26 info3 rfl (by decide) (by omega) u6 x6_1 x7_1 [.int .i64 x7_1] (fun k_ => some k_ ≠ (v243 : Value).ownBlock ∧ some k_ ≠ (.slice Ao9 t248.length co9 : Value).ownBlock) (fun _ => False) rfl rfl ?aP (fun _ hk => hk.elim) ?aF ?aO ?aB ?aS ?aL ?_; (case aP => exact rfl); (case aB => exact (by repeat (first | (with_reducible first | exact HB.out | apply below_alloc | apply pw_below_drewN | apply below_drew1) | exact HB.out))); (case aF => exact (fun k_ hk => ⟨Kd.fresh' (rl_ HO_5.out) k_ hk, Kd.fresh' (rl_ HO_19.out) k_ hk⟩)); (case aO => exact (ra_ HO_6.out)); (case aS => exact (bz_ HB.out)); (case aL => have := LMc26.out; omega); intro v256 w29 ho hb hg hat; rw [← Ny255.out] at ho; have n0_ := Aside0.mk (Kd.R_after (ok := (fun k_ => some k_ ≠ (.slice Ao9 t248.length co9 : Value).ownBlock)) (by (with_reducible repeat (first | apply Kd.R_alloc | apply Kd.R_drewN | apply Kd.R_drew)); exact Kd.R_mono HO_5.out (fun _ hk => ⟨hk.2, hk.1⟩)) hg hat); have n1_ := Aside0.mk (Kd.R_after (ok := (fun k_ => some k_ ≠ (v243 : Value).ownBlock)) (ra_ HO_19.out) hg hat); have n2_ := Aside0.mk (hb); have n3_ := Aside0.mk (ho); clear HO_5; clear HO_19; clear HB; clear HO_6; have HO_5 := n0_; have HO_19 := n1_; have HB := n2_; have HO257 := n3_; clear n0_ n1_ n2_ n3_; clear ho hb hg hat))
         repeat (go_quiet (first | ((with_reducible refine gate_builtin (b := .append) (xs := #[.tmp 54, .tmp 56]) rfl ?_); at_builtin; refine Kd.R_append (Kd.int .i64) (w0 := w) w.heap.size rfl (.tmp 54) (.tmp 56) 26 3 (.int .i64 0) 8 rfl Try.underlying26 info3 rfl (by decide) (by omega) u6 x6_1 x7_1 [.int .i64 x7_1] (fun k_ => some k_ ≠ (v243 : Value).ownBlock ∧ some k_ ≠ (.slice Ao9 t248.length co9 : Value).ownBlock) (fun _ => False) rfl rfl ?aP (fun _ hk => hk.elim) ?aF ?aO ?aB ?aS ?aL ?_; (case aP => exact rfl); (case aB => exact (by repeat (first | (with_reducible first | exact HB.out | apply below_alloc | apply pw_below_drewN | apply below_drew1) | exact HB.out))); (case aF => exact (fun k_ hk => ⟨Kd.fresh' (rl_ HO_5.out) k_ hk, Kd.fresh' (rl_ HO_19.out) k_ hk⟩)); (case aO => exact (ra_ HO_6.out)); (case aS => exact (bz_ HB.out)); (case aL => have := LMc26.out; omega); intro v256 w29 ho hb hg hat; rw [← Ny255.out] at ho; have n0_ := Aside0.mk (Kd.R_after (ok := (fun k_ => some k_ ≠ (.slice Ao9 t248.length co9 : Value).ownBlock)) (by (with_reducible repeat (first | apply Kd.R_alloc | apply Kd.R_drewN | apply Kd.R_drew)); exact Kd.R_mono HO_5.out (fun _ hk => ⟨hk.2, hk.1⟩)) hg hat); have n1_ := Aside0.mk (Kd.R_after (ok := (fun k_ => some k_ ≠ (v243 : Value).ownBlock)) (ra_ HO_19.out) hg hat); have n2_ := Aside0.mk (hb); have n3_ := Aside0.mk (ho); clear HO_5; clear HO_19; clear HB; clear HO_6; have HO_5 := n0_; have HO_19 := n1_; have HB := n2_; have HO257 := n3_; clear n0_ n1_ n2_ n3_; clear ho hb hg hat)); try go_wp2_with (first | ((with_reducible refine gate_builtin (b := .append) (xs := #[.tmp 54, .tmp 56]) rfl ?_); at_builtin; refine Kd.R_append (Kd.int .i64) (w0 := w) w.heap.size rfl (.tmp 54) (.tmp 56) 26 3 (.int .i64 0) 8 rfl Try.underlying26 info3 rfl (by decide) (by omega) u6 x6_1 x7_1 [.int .i64 x7_1] (fun k_ => some k_ ≠ (v243 : Value).ownBlock ∧ some k_ ≠ (.slice Ao9 t248.length co9 : Value).ownBlock) (fun _ => False) rfl rfl ?aP (fun _ hk => hk.elim) ?aF ?aO ?aB ?aS ?aL ?_; (case aP => exact rfl); (case aB => exact (by repeat (first | (with_reducible first | exact HB.out | apply below_alloc | apply pw_below_drewN | apply below_drew1) | exact HB.out))); (case aF => exact (fun k_ hk => ⟨Kd.fresh' (rl_ HO_5.out) k_ hk, Kd.fresh' (rl_ HO_19.out) k_ hk⟩)); (case aO => exact (ra_ HO_6.out)); (case aS => exact (bz_ HB.out)); (case aL => have := LMc26.out; omega); intro v256 w29 ho hb hg hat; rw [← Ny255.out] at ho; have n0_ := Aside0.mk (Kd.R_after (ok := (fun k_ => some k_ ≠ (.slice Ao9 t248.length co9 : Value).ownBlock)) (by (with_reducible repeat (first | apply Kd.R_alloc | apply Kd.R_drewN | apply Kd.R_drew)); exact Kd.R_mono HO_5.out (fun _ hk => ⟨hk.2, hk.1⟩)) hg hat); have n1_ := Aside0.mk (Kd.R_after (ok := (fun k_ => some k_ ≠ (v243 : Value).ownBlock)) (ra_ HO_19.out) hg hat); have n2_ := Aside0.mk (hb); have n3_ := Aside0.mk (ho); clear HO_5; clear HO_19; clear HB; clear HO_6; have HO_5 := n0_; have HO_19 := n1_; have HB := n2_; have HO257 := n3_; clear n0_ n1_ n2_ n3_; clear ho hb hg hat)))
         go_roundg k2
         case measure => have := HK1.out; have := HK2.out; omega
         case rel => exact ⟨(y255), (x8_2), ef_, H', ⟨by have := HK1.out; have := HK2.out; omega⟩, ⟨by (with_reducible repeat (first | apply Kd.R_alloc | apply Kd.R_drewN | apply Kd.R_drew)); exact Kd.R_mono HO_5.out (fun _ hk => hk.2)⟩, ⟨by (with_reducible repeat (first | apply Kd.R_alloc | apply Kd.R_drewN | apply Kd.R_drew)); exact Kd.R_mono HO257.out (fun _ hk => hk.1)⟩, ⟨bb_ HB.out⟩⟩
       ·rw [if_neg c26] at H
        exact absurd H (by simp)

end Go.Proofs.Ytagmogkdlimofaa.PFnCycles
-- thin
