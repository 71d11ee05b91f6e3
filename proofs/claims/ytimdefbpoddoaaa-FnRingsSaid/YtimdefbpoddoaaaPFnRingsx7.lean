/- Each function that the law comes to, as a plain function, with the proof that the call in the model gives what that function says (written by a program of this session out of the translation). No condition. -/
import Derived.Test.YtimdefbpoddoaaaPFnRingsx0
import Derived.Test.YtimdefbpoddoaaaPFnRingsx1
import Derived.Test.YtimdefbpoddoaaaPFnRingsx3
import Derived.Test.YtimdefbpoddoaaaPFnRingsx4
import Derived.Test.YtimdefbpoddoaaaPFnRingsx6
namespace Go.Proofs.Ytimdefbpoddoaaa.PFnRings
open Go.RowKit Go.Proofs.YtimdefbpoddoaaaW.PrintWords Go.Proofs.YtimdefbpoddoaaaW.PrintLast Go.Proofs.YtimdefbpoddoaaaW.PrintMore
attribute [local go_sem] max2_int min2_int max_two min_two max_three min_three max_four min_four   -- for this text's walks alone
set_option linter.unusedVariables false
set_option linter.unusedSimpArgs false

/-! ### impl_SuccessorsOf: function 165 -/
def impl_SuccessorsOf.l0 : Nat → Int → List Int → List (S94) → Int → Int → Option (List Int)
 | 0, _, _, _, _, _ => none
 | k + 1, x1, x5, x9, x10, x11 => if x11 < x10 then (if 0 ≤ x11 then (if x11 < (x9.length : Int) then (if ((rd_T94 x9 x11).f0) = x1 then (if x5.length < 17592186044416 then (impl_SuccessorsOf.l0 k x1 (x5 ++ [(rd_T94 x9 x11).f1]) x9 x10 (wrap64 (x11 + 1))) else (none)) else (impl_SuccessorsOf.l0 k x1 x5 x9 x10 (wrap64 (x11 + 1)))) else (none)) else (none)) else (some x5)
def impl_SuccessorsOf.f (k : Nat) (l0 : List (S94)) (a1 : Int) : Option (List Int) := impl_SuccessorsOf.l0 k a1 (([] : List Int)) l0 (l0.length : Int) 0
theorem impl_SuccessorsOf.mono_l : ∀ k, (∀ y0 y1 y2 y3 y4, LeO (impl_SuccessorsOf.l0 k y0 y1 y2 y3 y4) (impl_SuccessorsOf.l0 (k + 1) y0 y1 y2 y3 y4))
 | 0 => fun _ _ _ _ _ r h => by simp [impl_SuccessorsOf.l0] at h
 | k + 1 => by
  have ih0 := impl_SuccessorsOf.mono_l k
  ·intro y0 y1 y2 y3 y4
   unfold impl_SuccessorsOf.l0
   repeat' first
   | (with_reducible exact ih0 _ _ _ _ _)
   | (with_reducible exact LeO.refl _)
   | (with_reducible exact LeO.none _)
   | (with_reducible refine LeO.ite ?_ ?_)
   | (with_reducible refine LeO.bind ?_ (fun _ => ?_))
   | exact ih0 _ _ _ _ _
   | exact LeO.none _
   | refine LeO.ite ?_ ?_
   | refine LeO.bind ?_ (fun _ => ?_)
theorem impl_SuccessorsOf.mono : ∀ a0 a1 k, LeO (impl_SuccessorsOf.f k a0 a1) (impl_SuccessorsOf.f (k + 1) a0 a1) := by
 intro a0 a1 k
 have ih0 := impl_SuccessorsOf.mono_l k
 unfold impl_SuccessorsOf.f
 repeat' first
   | (with_reducible exact ih0 _ _ _ _ _)
   | (with_reducible exact LeO.refl _)
   | (with_reducible exact LeO.none _)
   | (with_reducible refine LeO.ite ?_ ?_)
   | (with_reducible refine LeO.bind ?_ (fun _ => ?_))
   | exact ih0 _ _ _ _ _
   | exact LeO.none _
   | refine LeO.ite ?_ ?_
   | refine LeO.bind ?_ (fun _ => ?_)
set_option maxHeartbeats 8000000 in
set_option maxRecDepth 100000 in
theorem impl_SuccessorsOf.calls (k : Nat) (A0 : Option Addr) (c0 : Nat) (l0 : List (S94)) (a1 : Int) (r : List Int) (w : World) (hr0 : Kd.C k94 w A0 l0.length l0) (hc0 : l0.length ≤ c0) (h : impl_SuccessorsOf.f k l0 a1 = some r) :
  Calls Try.prog 165 #[.slice A0 l0.length c0, .int .i64 a1] w fun e w' => ∃ v0_ : Value, e = .returned (v0_) ∧ Kd.R (Kd.int .i64) 3 w' w.heap.size (fun _ => True) v0_ r ∧ Below w.heap.size w w' := by
 have hu94 := Try.underlying94
 have HR0 := Aside0.mk hr0
 have HC0 := Aside0.mk hc0
 clear hr0 hc0
 have HB := Aside0.mk (Below.refl w.heap.size w)
 have H : (impl_SuccessorsOf.l0 k a1 (([] : List Int)) l0 (l0.length : Int) 0) = some r := h
 clear h
 obtain ⟨y161, hy161⟩ : ∃ y_ : List Int, y_ = (([] : List Int)) := ⟨_, rfl⟩
 replace H : (impl_SuccessorsOf.l0 k a1 y161 l0 (l0.length : Int) 0) = some r := by first | (rw [hy161]; with_reducible exact H) | (have H2_ := (Option.bind_some _ _).symm.trans H; rw [hy161]; with_reducible exact H2_) | (have H2_ := (Option.bind_some _ _).symm.trans H; with_reducible exact H2_) | with_reducible exact H | (rw [hy161]; exact H) | exact H
 have Ny161 := Aside0.mk hy161
 clear hy161
 have H' := Aside0.mk H
 clear H
 go_enter Try.func165, Try.ntmps165
 go_wp2_with (first | ((with_reducible refine gate_dst (N := 8) rfl ?_); refine Kd.R_lit (Kd.int .i64) _ 3 ?hg (N := 8) ?hd (xs := ([] : List Int)) (inner := []) (ok := fun _ => True) (okp := fun _ => True) ?hr ?hp (fun _ hk => hk) trivial (Below.refl _ _) (Nat.le_refl _) (by simp) ?_; (case hd => rfl); (case hg => rfl); (case hr => first | (go_simp; done) | (go_simp; rfl)); (case hp => exact (Reps.none _ _)); intro v162 w3 ho4 hb hg_ hnew_; clear hg_ hnew_; (first | rw [← Ny161.out] at ho4 | (simp only [Int.reduceToNat] at ho4; rw [← Ny161.out] at ho4)); have HO163 := Aside0.mk (Kd.R_lower ho4 (bz_ HB.out)); replace HB := Aside0.mk (bs_ HB.out hb); clear hb ho4))
 go_loopg [5, 11] k (fun kq v5 v11 w' => ∃ (x5_1 : List Int) (x11_1 : Int), v11 = .int .i64 x11_1 ∧ Aside0 (impl_SuccessorsOf.l0 kq a1 x5_1 l0 (l0.length : Int) x11_1 = some r) ∧ Aside0 (kq ≤ k) ∧ Aside0 (Kd.R (Kd.int .i64) 3 w' w.heap.size (fun _ => True) v5 x5_1) ∧ Aside0 (Below w.heap.size w w'))
 case atStart => exact ⟨(y161), (0), ef_, H', ⟨Nat.le_refl _⟩, ⟨by (with_reducible repeat (first | apply Kd.R_alloc | apply Kd.R_drewN | apply Kd.R_drew)); exact HO163.out⟩, ⟨bb_ HB.out⟩⟩
 case round =>
  clear H'
  obtain ⟨x5_1, x11_1, rfl, HA, HK1, HO_5, HB⟩ := hrel
  cases gk with
  | zero => exact absurd HA.out (by simp [impl_SuccessorsOf.l0])
  | succ k1 =>
   have H := HA.out
   clear HA
   simp only [impl_SuccessorsOf.l0] at H
   by_cases c5 : x11_1 < (l0.length : Int)
   ·rw [if_pos c5] at H
    have c5b0 : decide (x11_1 < (l0.length : Int)) = true := decide_eq_true c5
    clear c5
    by_cases c6 : 0 ≤ x11_1
    ·rw [if_pos c6] at H
     have c6b0 : decide (0 ≤ x11_1) = true := decide_eq_true c6
     clear c6
     by_cases c7 : x11_1 < (l0.length : Int)
     ·rw [if_pos c7] at H
      have c7b0 : decide (x11_1 < (l0.length : Int)) = true := decide_eq_true c7
      clear c7
      by_cases c8 : ((rd_T94 l0 x11_1).f0) = a1
      ·rw [if_pos c8] at H
       have c8b0 : (((rd_T94 l0 x11_1).f0) == a1) = true := beq_iff_eq.mpr c8
       have c8b1 : (((rd_T94 l0 x11_1).f0) != a1) = false := bne_eq_false_iff_eq.mpr c8
       clear c8
       by_cases c9 : x5_1.length < 17592186044416
       ·rw [if_pos c9] at H
        have LMc9 := Aside0.mk c9
        clear c9
        obtain ⟨y166, hy166⟩ : ∃ y_ : List Int, y_ = (x5_1 ++ [(rd_T94 l0 x11_1).f1]) := ⟨_, rfl⟩
        replace H : (impl_SuccessorsOf.l0 k1 a1 y166 l0 (l0.length : Int) (wrap64 (x11_1 + 1))) = some r := by first | (rw [hy166]; with_reducible exact H) | (have H2_ := (Option.bind_some _ _).symm.trans H; rw [hy166]; with_reducible exact H2_) | (have H2_ := (Option.bind_some _ _).symm.trans H; with_reducible exact H2_) | with_reducible exact H | (rw [hy166]; exact H) | exact H
        have Ny166 := Aside0.mk hy166
        clear hy166
        have H' := Aside0.mk H
        clear H
        have p164 : 0 ≤ (x11_1 : Int) := of_decide_eq_true dg_
        have q164 : x11_1 < (l0.length : Int) := of_decide_eq_true dg_
        obtain ⟨ad164, e164, hx164_0, hx164_1⟩ := at_T94 HR0.out x11_1 p164 q164
        cases e164
        replace hx164_0 := (HB.out.cell (World.block_lt_of_cell? w _ hx164_0)).trans hx164_0
        replace hx164_1 := (HB.out.cell (World.block_lt_of_cell? w _ hx164_1)).trans hx164_1
        replace p164 := eq_true p164
        replace q164 := eq_true q164
        go_wp2_with (first | ((with_reducible refine gate_dst (N := 7) rfl ?_); refine box_event ?hg (N := 7) ?hd (cs := #[.int .i64 0, .int .i64 0]) (t := 94) ?hr ?_; (case hd => rfl); (case hg => rfl); (case hr => first | (go_simp; done) | (go_simp; rfl)); intro gb165 hg w10 hbox hb; replace HO_5 := Aside0.mk (Kd.R_below (ra_ HO_5.out) hb); have BK165 := Aside0.mk (hbox); have GW165 := Aside0.mk ((by rw [hg]; exact (bz_ HB.out) : w.heap.size ≤ gb165)); have GE165 := Aside0.mk ((by rw [hg]; exact (bz_ HB.out) : w.heap.size ≤ gb165)); replace HB := Aside0.mk (bs_ HB.out hb); clear hb hbox hg; obtain ⟨hcz11_0, hcz11_1, hfz11_0, hfz11_1⟩ := cz2_ BK165.out) | ((with_reducible refine gate_builtin (b := .append) (xs := #[.tmp 19, .tmp 22]) rfl ?_); at_builtin; refine Kd.R_append (Kd.int .i64) (w0 := w) w.heap.size rfl (.tmp 19) (.tmp 22) 29 3 (.int .i64 0) 8 rfl Try.underlying29 info3 rfl (by decide) (by omega) u5 x5_1 ((rd_T94 l0 x11_1).f1) [.int .i64 ((rd_T94 l0 x11_1).f1)] (fun _ => True) (fun _ => False) rfl (by first | (go_simp; done) | (go_simp; rfl)) ?aP (fun _ hk => hk.elim) ?aF ?aO ?aB ?aS ?aL ?_; (case aP => exact rfl); (case aB => exact (by repeat (first | (with_reducible first | exact HB.out | apply below_alloc | apply pw_below_drewN | apply below_drew1 | refine below_set ?_ GE165.out) | exact HB.out))); (case aF => exact (fun _ _ => trivial)); (case aO => exact (rm_ (Kd.R_types HO_5.out BK165.out (by decide)) (fun _ hk => trivial))); (case aS => exact (bz_ HB.out)); (case aL => have := LMc9.out; omega); intro v167 w12 ho hb hg hat; rw [← Ny166.out] at ho; have n0_ := Aside0.mk (blk_grown (g := gb165) (o := .cells #[.int .i64 ((rd_T94 l0 x11_1).f0), .int .i64 ((rd_T94 l0 x11_1).f1)] 94 (0, 0)) (by (with_reducible repeat (first | refine blk_drewN ?_ _ | refine blk_drew ?_ | refine blk_alloc ?_ _)); refine blk_put (cs := #[.int .i64 ((rd_T94 l0 x11_1).f0), .int .i64 0]) ?_ 1 _ rfl; (with_reducible repeat (first | refine blk_drewN ?_ _ | refine blk_drew ?_ | refine blk_alloc ?_ _)); refine blk_put (cs := #[.int .i64 0, .int .i64 0]) ?_ 0 _ rfl; (with_reducible repeat (first | refine blk_drewN ?_ _ | refine blk_drew ?_ | refine blk_alloc ?_ _)); exact BK165.out) hg (Kd.R_ne HO_5.out BK165.out (by decide))); have n1_ := Aside0.mk (hb); have n2_ := Aside0.mk (ho); clear BK165; clear HB; clear HO_5; have BK165 := n0_; have HB := n1_; have HO168 := n2_; clear n0_ n1_ n2_; clear ho hb hg hat))
        go_roundg k1
        case measure => have := HK1.out; omega
        case rel => exact ⟨(y166), (wrap64 (x11_1 + 1)), ef_, H', ⟨by have := HK1.out; omega⟩, ⟨by (with_reducible repeat (first | apply Kd.R_alloc | apply Kd.R_drewN | apply Kd.R_drew)); exact HO168.out⟩, ⟨bb_ HB.out⟩⟩
       ·rw [if_neg c9] at H
        exact absurd H (by simp)
      ·rw [if_neg c8] at H
       have c8b0 : (((rd_T94 l0 x11_1).f0) == a1) = false := beq_eq_false_iff_ne.mpr c8
       have c8b1 : (((rd_T94 l0 x11_1).f0) != a1) = true := bne_iff_ne.mpr c8
       have H' := Aside0.mk H
       clear H
       have p164 : 0 ≤ (x11_1 : Int) := of_decide_eq_true dg_
       have q164 : x11_1 < (l0.length : Int) := of_decide_eq_true dg_
       obtain ⟨ad164, e164, hx164_0, hx164_1⟩ := at_T94 HR0.out x11_1 p164 q164
       cases e164
       replace hx164_0 := (HB.out.cell (World.block_lt_of_cell? w _ hx164_0)).trans hx164_0
       replace hx164_1 := (HB.out.cell (World.block_lt_of_cell? w _ hx164_1)).trans hx164_1
       replace p164 := eq_true p164
       replace q164 := eq_true q164
       go_wp2_with (first | ((with_reducible refine gate_dst (N := 7) rfl ?_); refine box_event ?hg (N := 7) ?hd (cs := #[.int .i64 0, .int .i64 0]) (t := 94) ?hr ?_; (case hd => rfl); (case hg => rfl); (case hr => first | (go_simp; done) | (go_simp; rfl)); intro gb165 hg w13 hbox hb; replace HO_5 := Aside0.mk (Kd.R_below (ra_ HO_5.out) hb); have BK165 := Aside0.mk (hbox); have GW165 := Aside0.mk ((by rw [hg]; exact (bz_ HB.out) : w.heap.size ≤ gb165)); have GE165 := Aside0.mk ((by rw [hg]; exact (bz_ HB.out) : w.heap.size ≤ gb165)); replace HB := Aside0.mk (bs_ HB.out hb); clear hb hbox hg; obtain ⟨hcz14_0, hcz14_1, hfz14_0, hfz14_1⟩ := cz2_ BK165.out))
       go_roundg k1
       case measure => have := HK1.out; omega
       case rel => exact ⟨(x5_1), (wrap64 (x11_1 + 1)), ef_, H', ⟨by have := HK1.out; omega⟩, ⟨rm_ (Kd.R_types HO_5.out BK165.out (by decide)) (fun _ hk => trivial)⟩, ⟨bb_ HB.out⟩⟩
     ·rw [if_neg c7] at H
      exact absurd H (by simp)
    ·rw [if_neg c6] at H
     exact absurd H (by simp)
   ·rw [if_neg c5] at H
    have c5b0 : decide (x11_1 < (l0.length : Int)) = false := decide_eq_false c5
    clear c5
    obtain rfl := Option.some.inj H
    go_wp2
    go_ret
    exact ⟨_, fin_, by (with_reducible repeat (first | apply Kd.R_alloc | apply Kd.R_drewN | apply Kd.R_drew)); exact HO_5.out, bb_ HB.out⟩

/-! ### impl_cycleFrom: function 137 -/
mutual
def impl_cycleFrom.l0 : Nat → List (S94) → Int → List Int → List Int → Int → Option (List Int)
 | 0, _, _, _, _, _ => none
 | k + 1, x0, x1, x5, x6, x7 => (impl_SuccessorsOf.f k x0 x7).bind fun t175 => (impl_cycleFrom.l1 k x0 x1 x5 x6 x7 (-1) t175 (t175.length : Int) 0)
def impl_cycleFrom.l1 : Nat → List (S94) → Int → List Int → List Int → Int → Int → List Int → Int → Int → Option (List Int)
 | 0, _, _, _, _, _, _, _, _, _ => none
 | k + 1, x0, x1, x5, x6, x7, x8, x19, x20, x21 => if x21 < x20 then (if 0 ≤ x21 then (if x21 < (x19.length : Int) then (if (rd x19 x21) ≥ x1 then (if 0 ≤ (rd x19 x21) then (if (rd x19 x21) < (x5.length : Int) then (if (rd x5 (rd x19 x21)) ≥ 0 then (if x8 < 0 then (impl_cycleFrom.l1 k x0 x1 x5 x6 x7 (rd x19 x21) x19 x20 (wrap64 (x21 + 1))) else (if 0 ≤ x8 then (if x8 < (x5.length : Int) then (if (rd x5 (rd x19 x21)) < (rd x5 x8) then (impl_cycleFrom.l1 k x0 x1 x5 x6 x7 (rd x19 x21) x19 x20 (wrap64 (x21 + 1))) else (impl_cycleFrom.l1 k x0 x1 x5 x6 x7 x8 x19 x20 (wrap64 (x21 + 1)))) else (none)) else (none))) else (impl_cycleFrom.l1 k x0 x1 x5 x6 x7 x8 x19 x20 (wrap64 (x21 + 1)))) else (none)) else (none)) else (impl_cycleFrom.l1 k x0 x1 x5 x6 x7 x8 x19 x20 (wrap64 (x21 + 1)))) else (none)) else (none)) else (if x8 < 0 then (some ([] : List Int)) else (if x6.length < 17592186044416 then ((some (x6 ++ [x7] : List Int)).bind fun y182 => (if x8 = x1 then (some y182) else (impl_cycleFrom.l0 k x0 x1 x5 y182 x8))) else (none)))
end
def impl_cycleFrom.f (k : Nat) (l0 : List (S94)) (a1 : Int) : Option (List Int) := (impl_distancesTo.f k l0 a1 a1).bind fun t169 => (impl_cycleFrom.l0 k l0 a1 t169 (([] : List Int)) a1)
theorem impl_cycleFrom.mono_l : ∀ k, (∀ y0 y1 y2 y3 y4, LeO (impl_cycleFrom.l0 k y0 y1 y2 y3 y4) (impl_cycleFrom.l0 (k + 1) y0 y1 y2 y3 y4)) ∧ (∀ y0 y1 y2 y3 y4 y5 y6 y7 y8, LeO (impl_cycleFrom.l1 k y0 y1 y2 y3 y4 y5 y6 y7 y8) (impl_cycleFrom.l1 (k + 1) y0 y1 y2 y3 y4 y5 y6 y7 y8))
 | 0 => ⟨fun _ _ _ _ _ r h => by simp [impl_cycleFrom.l0] at h, fun _ _ _ _ _ _ _ _ _ r h => by simp [impl_cycleFrom.l1] at h⟩
 | k + 1 => by
  obtain ⟨ih0, ih1⟩ := impl_cycleFrom.mono_l k
  refine ⟨?_, ?_⟩
  ·intro y0 y1 y2 y3 y4
   unfold impl_cycleFrom.l0
   repeat' first
   | (with_reducible exact ih0 _ _ _ _ _)
   | (with_reducible exact ih1 _ _ _ _ _ _ _ _ _)
   | (with_reducible exact impl_SuccessorsOf.mono _ _ _)
   | (with_reducible exact impl_distancesTo.mono _ _ _ _)
   | (with_reducible exact LeO.refl _)
   | (with_reducible exact LeO.none _)
   | (with_reducible refine LeO.ite ?_ ?_)
   | (with_reducible refine LeO.bind ?_ (fun _ => ?_))
   | exact ih0 _ _ _ _ _
   | exact ih1 _ _ _ _ _ _ _ _ _
   | exact impl_SuccessorsOf.mono _ _ _
   | exact impl_distancesTo.mono _ _ _ _
   | exact LeO.none _
   | refine LeO.ite ?_ ?_
   | refine LeO.bind ?_ (fun _ => ?_)
  ·intro y0 y1 y2 y3 y4 y5 y6 y7 y8
   unfold impl_cycleFrom.l1
   repeat' first
   | (with_reducible exact ih0 _ _ _ _ _)
   | (with_reducible exact ih1 _ _ _ _ _ _ _ _ _)
   | (with_reducible exact impl_SuccessorsOf.mono _ _ _)
   | (with_reducible exact impl_distancesTo.mono _ _ _ _)
   | (with_reducible exact LeO.refl _)
   | (with_reducible exact LeO.none _)
   | (with_reducible refine LeO.ite ?_ ?_)
   | (with_reducible refine LeO.bind ?_ (fun _ => ?_))
   | exact ih0 _ _ _ _ _
   | exact ih1 _ _ _ _ _ _ _ _ _
   | exact impl_SuccessorsOf.mono _ _ _
   | exact impl_distancesTo.mono _ _ _ _
   | exact LeO.none _
   | refine LeO.ite ?_ ?_
   | refine LeO.bind ?_ (fun _ => ?_)
theorem impl_cycleFrom.mono : ∀ a0 a1 k, LeO (impl_cycleFrom.f k a0 a1) (impl_cycleFrom.f (k + 1) a0 a1) := by
 intro a0 a1 k
 obtain ⟨ih0, ih1⟩ := impl_cycleFrom.mono_l k
 unfold impl_cycleFrom.f
 repeat' first
   | (with_reducible exact ih0 _ _ _ _ _)
   | (with_reducible exact ih1 _ _ _ _ _ _ _ _ _)
   | (with_reducible exact impl_SuccessorsOf.mono _ _ _)
   | (with_reducible exact impl_distancesTo.mono _ _ _ _)
   | (with_reducible exact LeO.refl _)
   | (with_reducible exact LeO.none _)
   | (with_reducible refine LeO.ite ?_ ?_)
   | (with_reducible refine LeO.bind ?_ (fun _ => ?_))
   | exact ih0 _ _ _ _ _
   | exact ih1 _ _ _ _ _ _ _ _ _
   | exact impl_SuccessorsOf.mono _ _ _
   | exact impl_distancesTo.mono _ _ _ _
   | exact LeO.none _
   | refine LeO.ite ?_ ?_
   | refine LeO.bind ?_ (fun _ => ?_)
set_option maxHeartbeats 8000000 in
set_option maxRecDepth 100000 in
theorem impl_cycleFrom.callsN (k : Nat) (A0 : Option Addr) (c0 : Nat) (l0 : List (S94)) (a1 : Int) (r : List Int) (w : World) (hr0 : Kd.C k94 w A0 l0.length l0) (hc0 : l0.length ≤ c0) (h : impl_cycleFrom.f k l0 a1 = some r) :
  Calls Try.prog 137 #[.slice A0 l0.length c0, .int .i64 a1] w fun e w' => ∃ v0_ : Value, e = .returned (v0_) ∧ Kd.R (Kd.int .i64) 3 w' w.heap.size (fun _ => True) v0_ r ∧ Below w.heap.size w w' ∧ (r = [] → v0_ = .slice none 0 0) := by
 have HR0 := Aside0.mk hr0
 have HC0 := Aside0.mk hc0
 clear hr0 hc0
 have HB := Aside0.mk (Below.refl w.heap.size w)
 have H : ((impl_distancesTo.f k l0 a1 a1).bind fun t169 => (impl_cycleFrom.l0 k l0 a1 t169 (([] : List Int)) a1)) = some r := h
 clear h
 replace H := Option.bind_eq_some_iff.mp H
 obtain ⟨t169, A30, H⟩ := H
 try dsimp only at H
 have A3 := Aside0.mk A30
 clear A30
 obtain ⟨y172, hy172⟩ : ∃ y_ : List Int, y_ = (([] : List Int)) := ⟨_, rfl⟩
 replace H : (impl_cycleFrom.l0 k l0 a1 t169 y172 a1) = some r := by first | (rw [hy172]; with_reducible exact H) | (have H2_ := (Option.bind_some _ _).symm.trans H; rw [hy172]; with_reducible exact H2_) | (have H2_ := (Option.bind_some _ _).symm.trans H; with_reducible exact H2_) | with_reducible exact H | (rw [hy172]; exact H) | exact H
 have Ny172 := Aside0.mk hy172
 clear hy172
 have H' := Aside0.mk H
 clear H
 go_enter Try.func137, Try.ntmps137
 go_wp2_with (first | (go_at_call 164; (with_reducible refine (impl_distancesTo.calls k _ _ l0 a1 a1 t169 _ ?side1 HC0.out A3.out).mono ?_); (case side1 => repeat (first | exact HR0.out | (with_reducible refine Kd.C_alloc ?_ _) | (with_reducible refine Kd.C_drewN ?_ _) | (with_reducible refine Kd.C_drew ?_))); rintro e w4 ⟨v170, rfl, ho0, hb⟩; have HO171 := Aside0.mk (Kd.R_lower ho0 (bz_ HB.out)); replace HB := Aside0.mk (bs_ HB.out hb); (try clear hb); (try clear ho0)) | ((with_reducible refine gate_dst (N := 15) rfl ?_); refine Kd.R_lit (Kd.int .i64) _ 3 ?hg (N := 15) ?hd (xs := ([] : List Int)) (inner := []) (ok := fun _ => True) (okp := fun _ => True) ?hr ?hp (fun _ hk => hk) trivial (Below.refl _ _) (Nat.le_refl _) (by simp) ?_; (case hd => rfl); (case hg => rfl); (case hr => first | (go_simp; done) | (go_simp; rfl)); (case hp => exact (Reps.none _ _)); intro v173 w5 ho6 hb hg_ hnew_; clear hg_ hnew_; (first | rw [← Ny172.out] at ho6 | (simp only [Int.reduceToNat] at ho6; rw [← Ny172.out] at ho6)); have HO174 := Aside0.mk (Kd.R_lower (Kd.R_new' ho6 (rl_ HO171.out)) (bz_ HB.out)); replace HO171 := Aside0.mk (Kd.R_elder' (ra_ HO171.out) (Kd.R_base ho6) hb); replace HB := Aside0.mk (bs_ HB.out hb); clear hb ho6))
 repeat (go_quiet (first | (go_at_call 164; (with_reducible refine (impl_distancesTo.calls k _ _ l0 a1 a1 t169 _ ?side1 HC0.out A3.out).mono ?_); (case side1 => repeat (first | exact HR0.out | (with_reducible refine Kd.C_alloc ?_ _) | (with_reducible refine Kd.C_drewN ?_ _) | (with_reducible refine Kd.C_drew ?_))); rintro e w4 ⟨v170, rfl, ho0, hb⟩; have HO171 := Aside0.mk (Kd.R_lower ho0 (bz_ HB.out)); replace HB := Aside0.mk (bs_ HB.out hb); (try clear hb); (try clear ho0)) | ((with_reducible refine gate_dst (N := 15) rfl ?_); refine Kd.R_lit (Kd.int .i64) _ 3 ?hg (N := 15) ?hd (xs := ([] : List Int)) (inner := []) (ok := fun _ => True) (okp := fun _ => True) ?hr ?hp (fun _ hk => hk) trivial (Below.refl _ _) (Nat.le_refl _) (by simp) ?_; (case hd => rfl); (case hg => rfl); (case hr => first | (go_simp; done) | (go_simp; rfl)); (case hp => exact (Reps.none _ _)); intro v173 w5 ho6 hb hg_ hnew_; clear hg_ hnew_; (first | rw [← Ny172.out] at ho6 | (simp only [Int.reduceToNat] at ho6; rw [← Ny172.out] at ho6)); have HO174 := Aside0.mk (Kd.R_lower (Kd.R_new' ho6 (rl_ HO171.out)) (bz_ HB.out)); replace HO171 := Aside0.mk (Kd.R_elder' (ra_ HO171.out) (Kd.R_base ho6) hb); replace HB := Aside0.mk (bs_ HB.out hb); clear hb ho6)); try go_wp2_with (first | (go_at_call 164; (with_reducible refine (impl_distancesTo.calls k _ _ l0 a1 a1 t169 _ ?side1 HC0.out A3.out).mono ?_); (case side1 => repeat (first | exact HR0.out | (with_reducible refine Kd.C_alloc ?_ _) | (with_reducible refine Kd.C_drewN ?_ _) | (with_reducible refine Kd.C_drew ?_))); rintro e w4 ⟨v170, rfl, ho0, hb⟩; have HO171 := Aside0.mk (Kd.R_lower ho0 (bz_ HB.out)); replace HB := Aside0.mk (bs_ HB.out hb); (try clear hb); (try clear ho0)) | ((with_reducible refine gate_dst (N := 15) rfl ?_); refine Kd.R_lit (Kd.int .i64) _ 3 ?hg (N := 15) ?hd (xs := ([] : List Int)) (inner := []) (ok := fun _ => True) (okp := fun _ => True) ?hr ?hp (fun _ hk => hk) trivial (Below.refl _ _) (Nat.le_refl _) (by simp) ?_; (case hd => rfl); (case hg => rfl); (case hr => first | (go_simp; done) | (go_simp; rfl)); (case hp => exact (Reps.none _ _)); intro v173 w5 ho6 hb hg_ hnew_; clear hg_ hnew_; (first | rw [← Ny172.out] at ho6 | (simp only [Int.reduceToNat] at ho6; rw [← Ny172.out] at ho6)); have HO174 := Aside0.mk (Kd.R_lower (Kd.R_new' ho6 (rl_ HO171.out)) (bz_ HB.out)); replace HO171 := Aside0.mk (Kd.R_elder' (ra_ HO171.out) (Kd.R_base ho6) hb); replace HB := Aside0.mk (bs_ HB.out hb); clear hb ho6)))
 go_loopg [6, 7] k (fun kq v6 v7 w' => ∃ (x6_1 : List Int) (x7_1 : Int), v7 = .int .i64 x7_1 ∧ Aside0 (impl_cycleFrom.l0 kq l0 a1 t169 x6_1 x7_1 = some r) ∧ Aside0 (kq ≤ k) ∧ Aside0 (Kd.R (Kd.int .i64) 3 w' w.heap.size (fun k_ => some k_ ≠ (v6 : Value).ownBlock) v170 t169) ∧ Aside0 (Kd.R (Kd.int .i64) 3 w' w.heap.size (fun k_ => some k_ ≠ (v170 : Value).ownBlock) v6 x6_1) ∧ Aside0 (Below w.heap.size w w'))
 case atStart => exact ⟨(y172), (a1), ef_, H', ⟨Nat.le_refl _⟩, ⟨by (with_reducible repeat (first | apply Kd.R_alloc | apply Kd.R_drewN | apply Kd.R_drew)); exact Kd.R_mono HO171.out (fun _ hk => hk.2)⟩, ⟨by (with_reducible repeat (first | apply Kd.R_alloc | apply Kd.R_drewN | apply Kd.R_drew)); exact Kd.R_mono HO174.out (fun _ hk => hk.2)⟩, ⟨bb_ HB.out⟩⟩
 case round =>
  clear H'
  try clear c1
  try clear p2
  obtain ⟨x6_1, x7_1, rfl, HA, HK1, HO_5, HO_6, HB⟩ := hrel
  cases gk with
  | zero => exact absurd HA.out (by simp [impl_cycleFrom.l0])
  | succ k1 =>
   have H := HA.out
   clear HA
   simp only [impl_cycleFrom.l0] at H
   replace H := Option.bind_eq_some_iff.mp H
   obtain ⟨t175, A70, H⟩ := H
   try dsimp only at H
   have A7 := Aside0.mk A70
   clear A70
   have H' := Aside0.mk H
   clear H
   go_wp2_with (first | (go_at_call 165; (with_reducible refine (impl_SuccessorsOf.calls k1 _ _ l0 x7_1 t175 _ ?side1 HC0.out A7.out).mono ?_); (case side1 => exact cb_ HR0.out HB.out); rintro e w8 ⟨v176, rfl, ho0, hb⟩; have HO177 := Aside0.mk (Kd.R_lower (Kd.R_new' (Kd.R_new' ho0 (rl_ HO_5.out)) (rl_ HO_6.out)) (bz_ HB.out)); replace HO_5 := Aside0.mk (Kd.R_elder' (ra_ HO_5.out) (Kd.R_base ho0) hb); replace HO_6 := Aside0.mk (Kd.R_elder' (ra_ HO_6.out) (Kd.R_base ho0) hb); replace HB := Aside0.mk (bs_ HB.out hb); (try clear hb); (try clear ho0); obtain ⟨Ao9, co9, eo9⟩ := Kd.R_slice HO177.out; subst eo9))
   repeat (go_quiet (first | (go_at_call 165; (with_reducible refine (impl_SuccessorsOf.calls k1 _ _ l0 x7_1 t175 _ ?side1 HC0.out A7.out).mono ?_); (case side1 => exact cb_ HR0.out HB.out); rintro e w8 ⟨v176, rfl, ho0, hb⟩; have HO177 := Aside0.mk (Kd.R_lower (Kd.R_new' (Kd.R_new' ho0 (rl_ HO_5.out)) (rl_ HO_6.out)) (bz_ HB.out)); replace HO_5 := Aside0.mk (Kd.R_elder' (ra_ HO_5.out) (Kd.R_base ho0) hb); replace HO_6 := Aside0.mk (Kd.R_elder' (ra_ HO_6.out) (Kd.R_base ho0) hb); replace HB := Aside0.mk (bs_ HB.out hb); (try clear hb); (try clear ho0); obtain ⟨Ao9, co9, eo9⟩ := Kd.R_slice HO177.out; subst eo9)); try go_wp2_with (first | (go_at_call 165; (with_reducible refine (impl_SuccessorsOf.calls k1 _ _ l0 x7_1 t175 _ ?side1 HC0.out A7.out).mono ?_); (case side1 => exact cb_ HR0.out HB.out); rintro e w8 ⟨v176, rfl, ho0, hb⟩; have HO177 := Aside0.mk (Kd.R_lower (Kd.R_new' (Kd.R_new' ho0 (rl_ HO_5.out)) (rl_ HO_6.out)) (bz_ HB.out)); replace HO_5 := Aside0.mk (Kd.R_elder' (ra_ HO_5.out) (Kd.R_base ho0) hb); replace HO_6 := Aside0.mk (Kd.R_elder' (ra_ HO_6.out) (Kd.R_base ho0) hb); replace HB := Aside0.mk (bs_ HB.out hb); (try clear hb); (try clear ho0); obtain ⟨Ao9, co9, eo9⟩ := Kd.R_slice HO177.out; subst eo9)))
   go_loopg [8, 21] k1 (fun kq v8 v21 w' => ∃ (x8_2 : Int) (x21_2 : Int), v8 = .int .i64 x8_2 ∧ v21 = .int .i64 x21_2 ∧ Aside0 (impl_cycleFrom.l1 kq l0 a1 t169 x6_1 x7_1 x8_2 t175 (t175.length : Int) x21_2 = some r) ∧ Aside0 (kq ≤ k1) ∧ Aside0 (Kd.R (Kd.int .i64) 3 w' w.heap.size (fun k_ => some k_ ≠ (u6 : Value).ownBlock ∧ some k_ ≠ ((.slice Ao9 t175.length co9) : Value).ownBlock) v170 t169) ∧ Aside0 (Kd.R (Kd.int .i64) 3 w' w.heap.size (fun k_ => some k_ ≠ (v170 : Value).ownBlock ∧ some k_ ≠ ((.slice Ao9 t175.length co9) : Value).ownBlock) u6 x6_1) ∧ Aside0 (Kd.R (Kd.int .i64) 3 w' w.heap.size (fun k_ => some k_ ≠ (v170 : Value).ownBlock ∧ some k_ ≠ (u6 : Value).ownBlock) (.slice Ao9 t175.length co9) t175) ∧ Aside0 (Below w.heap.size w w'))
   case atStart => exact ⟨((-1)), (0), ef_, ef_, H', ⟨Nat.le_refl _⟩, ⟨by (with_reducible repeat (first | apply Kd.R_alloc | apply Kd.R_drewN | apply Kd.R_drew)); exact HO_5.out⟩, ⟨by (with_reducible repeat (first | apply Kd.R_alloc | apply Kd.R_drewN | apply Kd.R_drew)); exact HO_6.out⟩, ⟨by (with_reducible repeat (first | apply Kd.R_alloc | apply Kd.R_drewN | apply Kd.R_drew)); exact Kd.R_mono HO177.out (fun _ hk => ⟨hk.1.2, hk.2⟩)⟩, ⟨bb_ HB.out⟩⟩
   case round =>
    clear H'
    try clear c1
    try clear p2
    try clear p2
    obtain ⟨x8_2, x21_2, rfl, rfl, HA, HK2, HO_5, HO_6, HO_19, HB⟩ := hrel
    cases gk with
    | zero => exact absurd HA.out (by simp [impl_cycleFrom.l1])
    | succ k2 =>
     have H := HA.out
     clear HA
     simp only [impl_cycleFrom.l1] at H
     by_cases c10 : x21_2 < (t175.length : Int)
     ·rw [if_pos c10] at H
      have c10b0 : decide (x21_2 < (t175.length : Int)) = true := decide_eq_true c10
      clear c10
      by_cases c11 : 0 ≤ x21_2
      ·rw [if_pos c11] at H
       have c11b0 : decide (0 ≤ x21_2) = true := decide_eq_true c11
       clear c11
       by_cases c12 : x21_2 < (t175.length : Int)
       ·rw [if_pos c12] at H
        have c12b0 : decide (x21_2 < (t175.length : Int)) = true := decide_eq_true c12
        clear c12
        by_cases c13 : (rd t175 x21_2) ≥ a1
        ·rw [if_pos c13] at H
         have c13b0 : decide (a1 ≤ (rd t175 x21_2)) = true := decide_eq_true c13
         clear c13
         by_cases c14 : 0 ≤ (rd t175 x21_2)
         ·rw [if_pos c14] at H
          have c14b0 : decide (0 ≤ (rd t175 x21_2)) = true := decide_eq_true c14
          clear c14
          by_cases c15 : (rd t175 x21_2) < (t169.length : Int)
          ·rw [if_pos c15] at H
           have c15b0 : decide ((rd t175 x21_2) < (t169.length : Int)) = true := decide_eq_true c15
           clear c15
           by_cases c16 : (rd t169 (rd t175 x21_2)) ≥ 0
           ·rw [if_pos c16] at H
            have c16b0 : decide (0 ≤ (rd t169 (rd t175 x21_2))) = true := decide_eq_true c16
            clear c16
            by_cases c17 : x8_2 < 0
            ·rw [if_pos c17] at H
             have c17b0 : decide (x8_2 < 0) = true := decide_eq_true c17
             clear c17
             have H' := Aside0.mk H
             clear H
             have p178 : 0 ≤ (x21_2 : Int) := of_decide_eq_true dg_
             have q178 : x21_2 < (t175.length : Int) := of_decide_eq_true dg_
             obtain ⟨ad178, e178, hx178_0⟩ := Kd.at_int (Kd.R_reads' HO_19.out).2.2 x21_2 p178 q178
             cases e178
             replace p178 := eq_true p178
             replace q178 := eq_true q178
             obtain ⟨Ao18, co18, eo18⟩ := Kd.R_slice HO_5.out
             subst eo18
             have p179 : 0 ≤ ((rd t175 x21_2) : Int) := of_decide_eq_true dg_
             have q179 : (rd t175 x21_2) < (t169.length : Int) := of_decide_eq_true dg_
             obtain ⟨ad179, e179, hx179_0⟩ := Kd.at_int (Kd.R_reads' HO_5.out).2.2 (rd t175 x21_2) p179 q179
             cases e179
             replace p179 := eq_true p179
             replace q179 := eq_true q179
             go_wp2
             repeat (go_quiet (fail); try go_wp2)
             go_roundg k2
             case measure => have := HK1.out; have := HK2.out; omega
             case rel => exact ⟨(rd t175 x21_2), (wrap64 (x21_2 + 1)), ef_, ef_, H', ⟨by have := HK1.out; have := HK2.out; omega⟩, ⟨by (with_reducible repeat (first | apply Kd.R_alloc | apply Kd.R_drewN | apply Kd.R_drew)); exact HO_5.out⟩, ⟨by (with_reducible repeat (first | apply Kd.R_alloc | apply Kd.R_drewN | apply Kd.R_drew)); exact HO_6.out⟩, ⟨by (with_reducible repeat (first | apply Kd.R_alloc | apply Kd.R_drewN | apply Kd.R_drew)); exact HO_19.out⟩, ⟨bb_ HB.out⟩⟩
            ·rw [if_neg c17] at H
             have c17b0 : decide (x8_2 < 0) = false := decide_eq_false c17
             clear c17
             by_cases c19 : 0 ≤ x8_2
             ·rw [if_pos c19] at H
              have c19b0 : decide (0 ≤ x8_2) = true := decide_eq_true c19
              clear c19
              by_cases c20 : x8_2 < (t169.length : Int)
              ·rw [if_pos c20] at H
               have c20b0 : decide (x8_2 < (t169.length : Int)) = true := decide_eq_true c20
               clear c20
               by_cases c21 : (rd t169 (rd t175 x21_2)) < (rd t169 x8_2)
               ·rw [if_pos c21] at H
                have c21b0 : decide ((rd t169 (rd t175 x21_2)) < (rd t169 x8_2)) = true := decide_eq_true c21
                clear c21
                have H' := Aside0.mk H
                clear H
                have p178 : 0 ≤ (x21_2 : Int) := of_decide_eq_true dg_
                have q178 : x21_2 < (t175.length : Int) := of_decide_eq_true dg_
                obtain ⟨ad178, e178, hx178_0⟩ := Kd.at_int (Kd.R_reads' HO_19.out).2.2 x21_2 p178 q178
                cases e178
                replace p178 := eq_true p178
                replace q178 := eq_true q178
                obtain ⟨Ao22, co22, eo22⟩ := Kd.R_slice HO_5.out
                subst eo22
                have p179 : 0 ≤ ((rd t175 x21_2) : Int) := of_decide_eq_true dg_
                have q179 : (rd t175 x21_2) < (t169.length : Int) := of_decide_eq_true dg_
                obtain ⟨ad179, e179, hx179_0⟩ := Kd.at_int (Kd.R_reads' HO_5.out).2.2 (rd t175 x21_2) p179 q179
                cases e179
                replace p179 := eq_true p179
                replace q179 := eq_true q179
                have p180 : 0 ≤ ((rd t175 x21_2) : Int) := of_decide_eq_true dg_
                have q180 : (rd t175 x21_2) < (t169.length : Int) := of_decide_eq_true dg_
                obtain ⟨ad180, e180, hx180_0⟩ := Kd.at_int (Kd.R_reads' HO_5.out).2.2 (rd t175 x21_2) p180 q180
                obtain rfl : ad179 = ad180 := (by injection e180)
                replace p180 := eq_true p180
                replace q180 := eq_true q180
                have p181 : 0 ≤ (x8_2 : Int) := of_decide_eq_true dg_
                have q181 : x8_2 < (t169.length : Int) := of_decide_eq_true dg_
                obtain ⟨ad181, e181, hx181_0⟩ := Kd.at_int (Kd.R_reads' HO_5.out).2.2 x8_2 p181 q181
                obtain rfl : ad179 = ad181 := (by injection e181)
                replace p181 := eq_true p181
                replace q181 := eq_true q181
                go_wp2
                repeat (go_quiet (fail); try go_wp2)
                go_roundg k2
                case measure => have := HK1.out; have := HK2.out; omega
                case rel => exact ⟨(rd t175 x21_2), (wrap64 (x21_2 + 1)), ef_, ef_, H', ⟨by have := HK1.out; have := HK2.out; omega⟩, ⟨by (with_reducible repeat (first | apply Kd.R_alloc | apply Kd.R_drewN | apply Kd.R_drew)); exact HO_5.out⟩, ⟨by (with_reducible repeat (first | apply Kd.R_alloc | apply Kd.R_drewN | apply Kd.R_drew)); exact HO_6.out⟩, ⟨by (with_reducible repeat (first | apply Kd.R_alloc | apply Kd.R_drewN | apply Kd.R_drew)); exact HO_19.out⟩, ⟨bb_ HB.out⟩⟩
               ·rw [if_neg c21] at H
                have c21b0 : decide ((rd t169 (rd t175 x21_2)) < (rd t169 x8_2)) = false := decide_eq_false c21
                clear c21
                have H' := Aside0.mk H
                clear H
                have p178 : 0 ≤ (x21_2 : Int) := of_decide_eq_true dg_
                have q178 : x21_2 < (t175.length : Int) := of_decide_eq_true dg_
                obtain ⟨ad178, e178, hx178_0⟩ := Kd.at_int (Kd.R_reads' HO_19.out).2.2 x21_2 p178 q178
                cases e178
                replace p178 := eq_true p178
                replace q178 := eq_true q178
                obtain ⟨Ao23, co23, eo23⟩ := Kd.R_slice HO_5.out
                subst eo23
                have p179 : 0 ≤ ((rd t175 x21_2) : Int) := of_decide_eq_true dg_
                have q179 : (rd t175 x21_2) < (t169.length : Int) := of_decide_eq_true dg_
                obtain ⟨ad179, e179, hx179_0⟩ := Kd.at_int (Kd.R_reads' HO_5.out).2.2 (rd t175 x21_2) p179 q179
                cases e179
                replace p179 := eq_true p179
                replace q179 := eq_true q179
                have p180 : 0 ≤ ((rd t175 x21_2) : Int) := of_decide_eq_true dg_
                have q180 : (rd t175 x21_2) < (t169.length : Int) := of_decide_eq_true dg_
                obtain ⟨ad180, e180, hx180_0⟩ := Kd.at_int (Kd.R_reads' HO_5.out).2.2 (rd t175 x21_2) p180 q180
                obtain rfl : ad179 = ad180 := (by injection e180)
                replace p180 := eq_true p180
                replace q180 := eq_true q180
                have p181 : 0 ≤ (x8_2 : Int) := of_decide_eq_true dg_
                have q181 : x8_2 < (t169.length : Int) := of_decide_eq_true dg_
                obtain ⟨ad181, e181, hx181_0⟩ := Kd.at_int (Kd.R_reads' HO_5.out).2.2 x8_2 p181 q181
                obtain rfl : ad179 = ad181 := (by injection e181)
                replace p181 := eq_true p181
                replace q181 := eq_true q181
                go_wp2
                repeat (go_quiet (fail); try go_wp2)
                go_roundg k2
                case measure => have := HK1.out; have := HK2.out; omega
                case rel => exact ⟨(x8_2), (wrap64 (x21_2 + 1)), ef_, ef_, H', ⟨by have := HK1.out; have := HK2.out; omega⟩, ⟨by (with_reducible repeat (first | apply Kd.R_alloc | apply Kd.R_drewN | apply Kd.R_drew)); exact HO_5.out⟩, ⟨by (with_reducible repeat (first | apply Kd.R_alloc | apply Kd.R_drewN | apply Kd.R_drew)); exact HO_6.out⟩, ⟨by (with_reducible repeat (first | apply Kd.R_alloc | apply Kd.R_drewN | apply Kd.R_drew)); exact HO_19.out⟩, ⟨bb_ HB.out⟩⟩
              ·rw [if_neg c20] at H
               exact absurd H (by simp)
             ·rw [if_neg c19] at H
              exact absurd H (by simp)
           ·rw [if_neg c16] at H
            have c16b0 : decide (0 ≤ (rd t169 (rd t175 x21_2))) = false := decide_eq_false c16
            clear c16
            have H' := Aside0.mk H
            clear H
            have p178 : 0 ≤ (x21_2 : Int) := of_decide_eq_true dg_
            have q178 : x21_2 < (t175.length : Int) := of_decide_eq_true dg_
            obtain ⟨ad178, e178, hx178_0⟩ := Kd.at_int (Kd.R_reads' HO_19.out).2.2 x21_2 p178 q178
            cases e178
            replace p178 := eq_true p178
            replace q178 := eq_true q178
            obtain ⟨Ao24, co24, eo24⟩ := Kd.R_slice HO_5.out
            subst eo24
            have p179 : 0 ≤ ((rd t175 x21_2) : Int) := of_decide_eq_true dg_
            have q179 : (rd t175 x21_2) < (t169.length : Int) := of_decide_eq_true dg_
            obtain ⟨ad179, e179, hx179_0⟩ := Kd.at_int (Kd.R_reads' HO_5.out).2.2 (rd t175 x21_2) p179 q179
            cases e179
            replace p179 := eq_true p179
            replace q179 := eq_true q179
            go_wp2
            repeat (go_quiet (fail); try go_wp2)
            go_roundg k2
            case measure => have := HK1.out; have := HK2.out; omega
            case rel => exact ⟨(x8_2), (wrap64 (x21_2 + 1)), ef_, ef_, H', ⟨by have := HK1.out; have := HK2.out; omega⟩, ⟨by (with_reducible repeat (first | apply Kd.R_alloc | apply Kd.R_drewN | apply Kd.R_drew)); exact HO_5.out⟩, ⟨by (with_reducible repeat (first | apply Kd.R_alloc | apply Kd.R_drewN | apply Kd.R_drew)); exact HO_6.out⟩, ⟨by (with_reducible repeat (first | apply Kd.R_alloc | apply Kd.R_drewN | apply Kd.R_drew)); exact HO_19.out⟩, ⟨bb_ HB.out⟩⟩
          ·rw [if_neg c15] at H
           exact absurd H (by simp)
         ·rw [if_neg c14] at H
          exact absurd H (by simp)
        ·rw [if_neg c13] at H
         have c13b0 : decide (a1 ≤ (rd t175 x21_2)) = false := decide_eq_false c13
         clear c13
         have H' := Aside0.mk H
         clear H
         have p178 : 0 ≤ (x21_2 : Int) := of_decide_eq_true dg_
         have q178 : x21_2 < (t175.length : Int) := of_decide_eq_true dg_
         obtain ⟨ad178, e178, hx178_0⟩ := Kd.at_int (Kd.R_reads' HO_19.out).2.2 x21_2 p178 q178
         cases e178
         replace p178 := eq_true p178
         replace q178 := eq_true q178
         go_wp2
         repeat (go_quiet (fail); try go_wp2)
         go_roundg k2
         case measure => have := HK1.out; have := HK2.out; omega
         case rel => exact ⟨(x8_2), (wrap64 (x21_2 + 1)), ef_, ef_, H', ⟨by have := HK1.out; have := HK2.out; omega⟩, ⟨by (with_reducible repeat (first | apply Kd.R_alloc | apply Kd.R_drewN | apply Kd.R_drew)); exact HO_5.out⟩, ⟨by (with_reducible repeat (first | apply Kd.R_alloc | apply Kd.R_drewN | apply Kd.R_drew)); exact HO_6.out⟩, ⟨by (with_reducible repeat (first | apply Kd.R_alloc | apply Kd.R_drewN | apply Kd.R_drew)); exact HO_19.out⟩, ⟨bb_ HB.out⟩⟩
       ·rw [if_neg c12] at H
        exact absurd H (by simp)
      ·rw [if_neg c11] at H
       exact absurd H (by simp)
     ·rw [if_neg c10] at H
      have c10b0 : decide (x21_2 < (t175.length : Int)) = false := decide_eq_false c10
      clear c10
      by_cases c25 : x8_2 < 0
      ·rw [if_pos c25] at H
       have c25b0 : decide (x8_2 < 0) = true := decide_eq_true c25
       clear c25
       obtain rfl := Option.some.inj H
       go_wp2
       repeat (go_quiet (fail); try go_wp2)
       go_ret
       exact ⟨_, fin_, by first | exact Kd.R_nil _ _ _ _ _ | exact Kd.N_nil _ _ _ _ _ | exact Kd.V_nil _ _ _ _ _ | exact Kd.Q_nil _ _ _ _ _ | exact Kd.S_nil _ _ _ _ _, bb_ HB.out, by first | rfl | (intro e_; first | rfl | (exfalso; simp [Ny172.out] at e_; done) | (exfalso; simp [Ny182.out] at e_; done))⟩
      ·rw [if_neg c25] at H
       have c25b0 : decide (x8_2 < 0) = false := decide_eq_false c25
       clear c25
       by_cases c26 : x6_1.length < 17592186044416
       ·rw [if_pos c26] at H
        have LMc26 := Aside0.mk c26
        clear c26
        obtain ⟨y182, hy182⟩ : ∃ y_ : List Int, y_ = (x6_1 ++ [x7_1]) := ⟨_, rfl⟩
        replace H : (if x8_2 = a1 then (some y182) else (impl_cycleFrom.l0 k2 l0 a1 t169 y182 x8_2)) = some r := by first | (rw [hy182]; with_reducible exact H) | (have H2_ := (Option.bind_some _ _).symm.trans H; rw [hy182]; with_reducible exact H2_) | (have H2_ := (Option.bind_some _ _).symm.trans H; with_reducible exact H2_) | with_reducible exact H | (rw [hy182]; exact H) | exact H
        have Ny182 := Aside0.mk hy182
        clear hy182
        by_cases c27 : x8_2 = a1
        ·rw [if_pos c27] at H
         have c27b0 : (x8_2 == a1) = true := beq_iff_eq.mpr c27
         have c27b1 : (x8_2 != a1) = false := bne_eq_false_iff_eq.mpr c27
         clear c27
         obtain rfl := Option.some.inj H
         go_wp2_with (first | ((with_reducible refine gate_builtin (b := .append) (xs := #[.tmp 54, .tmp 56]) rfl ?_); at_builtin; refine Kd.R_append (Kd.int .i64) (w0 := w) w.heap.size rfl (.tmp 54) (.tmp 56) 29 3 (.int .i64 0) 8 rfl Try.underlying29 info3 rfl (by decide) (by omega) u6 x6_1 x7_1 [.int .i64 x7_1] (fun k_ => some k_ ≠ (v170 : Value).ownBlock ∧ some k_ ≠ (.slice Ao9 t175.length co9 : Value).ownBlock) (fun _ => False) rfl rfl ?aP (fun _ hk => hk.elim) ?aF ?aO ?aB ?aS ?aL ?_; (case aP => exact rfl); (case aB => exact (by repeat (first | (with_reducible first | exact HB.out | apply below_alloc | apply pw_below_drewN | apply below_drew1) | exact HB.out))); (case aF => exact (fun k_ hk => ⟨Kd.fresh' (rl_ HO_5.out) k_ hk, Kd.fresh' (rl_ HO_19.out) k_ hk⟩)); (case aO => exact (ra_ HO_6.out)); (case aS => exact (bz_ HB.out)); (case aL => have := LMc26.out; omega); intro v183 w28 ho hb hg hat; rw [← Ny182.out] at ho; have n0_ := Aside0.mk (Kd.R_after (ok := (fun k_ => some k_ ≠ (.slice Ao9 t175.length co9 : Value).ownBlock)) (by (with_reducible repeat (first | apply Kd.R_alloc | apply Kd.R_drewN | apply Kd.R_drew)); exact Kd.R_mono HO_5.out (fun _ hk => ⟨hk.2, hk.1⟩)) hg hat); have n1_ := Aside0.mk (Kd.R_after (ok := (fun k_ => some k_ ≠ (v170 : Value).ownBlock)) (ra_ HO_19.out) hg hat); have n2_ := Aside0.mk (hb); have n3_ := Aside0.mk (ho); clear HO_5; clear HO_19; clear HB; clear HO_6; have HO_5 := n0_; have HO_19 := n1_; have HB := n2_; have HO184 := n3_; clear n0_ n1_ n2_ n3_; clear ho hb hg hat))
         repeat (go_quiet (first | ((with_reducible refine gate_builtin (b := .append) (xs := #[.tmp 54, .tmp 56]) rfl ?_); at_builtin; refine Kd.R_append (Kd.int .i64) (w0 := w) w.heap.size rfl (.tmp 54) (.tmp 56) 29 3 (.int .i64 0) 8 rfl Try.underlying29 info3 rfl (by decide) (by omega) u6 x6_1 x7_1 [.int .i64 x7_1] (fun k_ => some k_ ≠ (v170 : Value).ownBlock ∧ some k_ ≠ (.slice Ao9 t175.length co9 : Value).ownBlock) (fun _ => False) rfl rfl ?aP (fun _ hk => hk.elim) ?aF ?aO ?aB ?aS ?aL ?_; (case aP => exact rfl); (case aB => exact (by repeat (first | (with_reducible first | exact HB.out | apply below_alloc | apply pw_below_drewN | apply below_drew1) | exact HB.out))); (case aF => exact (fun k_ hk => ⟨Kd.fresh' (rl_ HO_5.out) k_ hk, Kd.fresh' (rl_ HO_19.out) k_ hk⟩)); (case aO => exact (ra_ HO_6.out)); (case aS => exact (bz_ HB.out)); (case aL => have := LMc26.out; omega); intro v183 w28 ho hb hg hat; rw [← Ny182.out] at ho; have n0_ := Aside0.mk (Kd.R_after (ok := (fun k_ => some k_ ≠ (.slice Ao9 t175.length co9 : Value).ownBlock)) (by (with_reducible repeat (first | apply Kd.R_alloc | apply Kd.R_drewN | apply Kd.R_drew)); exact Kd.R_mono HO_5.out (fun _ hk => ⟨hk.2, hk.1⟩)) hg hat); have n1_ := Aside0.mk (Kd.R_after (ok := (fun k_ => some k_ ≠ (v170 : Value).ownBlock)) (ra_ HO_19.out) hg hat); have n2_ := Aside0.mk (hb); have n3_ := Aside0.mk (ho); clear HO_5; clear HO_19; clear HB; clear HO_6; have HO_5 := n0_; have HO_19 := n1_; have HB := n2_; have HO184 := n3_; clear n0_ n1_ n2_ n3_; clear ho hb hg hat)); try go_wp2_with (first | ((with_reducible refine gate_builtin (b := .append) (xs := #[.tmp 54, .tmp 56]) rfl ?_); at_builtin; refine Kd.R_append (Kd.int .i64) (w0 := w) w.heap.size rfl (.tmp 54) (.tmp 56) 29 3 (.int .i64 0) 8 rfl Try.underlying29 info3 rfl (by decide) (by omega) u6 x6_1 x7_1 [.int .i64 x7_1] (fun k_ => some k_ ≠ (v170 : Value).ownBlock ∧ some k_ ≠ (.slice Ao9 t175.length co9 : Value).ownBlock) (fun _ => False) rfl rfl ?aP (fun _ hk => hk.elim) ?aF ?aO ?aB ?aS ?aL ?_; (case aP => exact rfl); (case aB => exact (by repeat (first | (with_reducible first | exact HB.out | apply below_alloc | apply pw_below_drewN | apply below_drew1) | exact HB.out))); (case aF => exact (fun k_ hk => ⟨Kd.fresh' (rl_ HO_5.out) k_ hk, Kd.fresh' (rl_ HO_19.out) k_ hk⟩)); (case aO => exact (ra_ HO_6.out)); (case aS => exact (bz_ HB.out)); (case aL => have := LMc26.out; omega); intro v183 w28 ho hb hg hat; rw [← Ny182.out] at ho; have n0_ := Aside0.mk (Kd.R_after (ok := (fun k_ => some k_ ≠ (.slice Ao9 t175.length co9 : Value).ownBlock)) (by (with_reducible repeat (first | apply Kd.R_alloc | apply Kd.R_drewN | apply Kd.R_drew)); exact Kd.R_mono HO_5.out (fun _ hk => ⟨hk.2, hk.1⟩)) hg hat); have n1_ := Aside0.mk (Kd.R_after (ok := (fun k_ => some k_ ≠ (v170 : Value).ownBlock)) (ra_ HO_19.out) hg hat); have n2_ := Aside0.mk (hb); have n3_ := Aside0.mk (ho); clear HO_5; clear HO_19; clear HB; clear HO_6; have HO_5 := n0_; have HO_19 := n1_; have HB := n2_; have HO184 := n3_; clear n0_ n1_ n2_ n3_; clear ho hb hg hat)))
         go_ret
         exact ⟨_, fin_, by (with_reducible repeat (first | apply Kd.R_alloc | apply Kd.R_drewN | apply Kd.R_drew)); exact Kd.R_mono HO184.out (fun _ hk => trivial), bb_ HB.out, by first | rfl | (intro e_; first | rfl | (exfalso; simp [Ny172.out] at e_; done) | (exfalso; simp [Ny182.out] at e_; done))⟩
        ·rw [if_neg c27] at H
         have c27b0 : (x8_2 == a1) = false := beq_eq_false_iff_ne.mpr c27
         have c27b1 : (x8_2 != a1) = true := bne_iff_ne.mpr c27
         have H' := Aside0.mk H
         clear H
         go_wp2_with (first | ((with_reducible refine gate_builtin (b := .append) (xs := #[.tmp 54, .tmp 56]) rfl ?_); at_builtin; refine Kd.R_append (Kd.int .i64) (w0 := w) w.heap.size rfl (.tmp 54) (.tmp 56) 29 3 (.int .i64 0) 8 rfl Try.underlying29 info3 rfl (by decide) (by omega) u6 x6_1 x7_1 [.int .i64 x7_1] (fun k_ => some k_ ≠ (v170 : Value).ownBlock ∧ some k_ ≠ (.slice Ao9 t175.length co9 : Value).ownBlock) (fun _ => False) rfl rfl ?aP (fun _ hk => hk.elim) ?aF ?aO ?aB ?aS ?aL ?_; (case aP => exact rfl); (case aB => exact (by repeat (first | (with_reducible first | exact HB.out | apply below_alloc | apply pw_below_drewN | apply below_drew1) | exact HB.out))); (case aF => exact (fun k_ hk => ⟨Kd.fresh' (rl_ HO_5.out) k_ hk, Kd.fresh' (rl_ HO_19.out) k_ hk⟩)); (case aO => exact (ra_ HO_6.out)); (case aS => exact (bz_ HB.out)); (case aL => have := LMc26.out; omega); intro v183 w29 ho hb hg hat; rw [← Ny182.out] at ho; have n0_ := Aside0.mk (Kd.R_after (ok := (fun k_ => some k_ ≠ (.slice Ao9 t175.length co9 : Value).ownBlock)) (by (with_reducible repeat (first | apply Kd.R_alloc | apply Kd.R_drewN | apply Kd.R_drew)); exact Kd.R_mono HO_5.out (fun _ hk => ⟨hk.2, hk.1⟩)) hg hat); have n1_ := Aside0.mk (Kd.R_after (ok := (fun k_ => some k_ ≠ (v170 : Value).ownBlock)) (ra_ HO_19.out) hg hat); have n2_ := Aside0.mk (hb); have n3_ := Aside0.mk (ho); clear HO_5; clear HO_19; clear HB; clear HO_6; have HO_5 := n0_; have HO_19 := n1_; have HB := n2_; have HO184 := n3_; clear n0_ n1_ n2_ n3_; clear ho hb hg hat))
         repeat (go_quiet (first | ((with_reducible refine gate_builtin (b := .append) (xs := #[.tmp 54, .tmp 56]) rfl ?_); at_builtin; refine Kd.R_append (Kd.int .i64) (w0 := w) w.heap.size rfl (.tmp 54) (.tmp 56) 29 3 (.int .i64 0) 8 rfl Try.underlying29 info3 rfl (by decide) (by omega) u6 x6_1 x7_1 [.int .i64 x7_1] (fun k_ => some k_ ≠ (v170 : Value).ownBlock ∧ some k_ ≠ (.slice Ao9 t175.length co9 : Value).ownBlock) (fun _ => False) rfl rfl ?aP (fun _ hk => hk.elim) ?aF ?aO ?aB ?aS ?aL ?_; (case aP => exact rfl); (case aB => exact (by repeat (first | (with_reducible first | exact HB.out | apply below_alloc | apply pw_below_drewN | apply below_drew1) | exact HB.out))); (case aF => exact (fun k_ hk => ⟨Kd.fresh' (rl_ HO_5.out) k_ hk, Kd.fresh' (rl_ HO_19.out) k_ hk⟩)); (case aO => exact (ra_ HO_6.out)); (case aS => exact (bz_ HB.out)); (case aL => have := LMc26.out; omega); intro v183 w29 ho hb hg hat; rw [← Ny182.out] at ho; have n0_ := Aside0.mk (Kd.R_after (ok := (fun k_ => some k_ ≠ (.slice Ao9 t175.length co9 : Value).ownBlock)) (by (with_reducible repeat (first | apply Kd.R_alloc | apply Kd.R_drewN | apply Kd.R_drew)); exact Kd.R_mono HO_5.out (fun _ hk => ⟨hk.2, hk.1⟩)) hg hat); have n1_ := Aside0.mk (Kd.R_after (ok := (fun k_ => some k_ ≠ (v170 : Value).ownBlock)) (ra_ HO_19.out) hg hat); have n2_ := Aside0.mk (hb); have n3_ := Aside0.mk (ho); clear HO_5; clear HO_19; clear HB; clear HO_6; have HO_5 := n0_; have HO_19 := n1_; have HB := n2_; have HO184 := n3_; clear n0_ n1_ n2_ n3_; clear ho hb hg hat)); try go_wp2_with (first | ((with_reducible refine gate_builtin (b := .append) (xs := #[.tmp 54, .tmp 56]) rfl ?_); at_builtin; refine Kd.R_append (Kd.int .i64) (w0 := w) w.heap.size rfl (.tmp 54) (.tmp 56) 29 3 (.int .i64 0) 8 rfl Try.underlying29 info3 rfl (by decide) (by omega) u6 x6_1 x7_1 [.int .i64 x7_1] (fun k_ => some k_ ≠ (v170 : Value).ownBlock ∧ some k_ ≠ (.slice Ao9 t175.length co9 : Value).ownBlock) (fun _ => False) rfl rfl ?aP (fun _ hk => hk.elim) ?aF ?aO ?aB ?aS ?aL ?_; (case aP => exact rfl); (case aB => exact (by repeat (first | (with_reducible first | exact HB.out | apply below_alloc | apply pw_below_drewN | apply below_drew1) | exact HB.out))); (case aF => exact (fun k_ hk => ⟨Kd.fresh' (rl_ HO_5.out) k_ hk, Kd.fresh' (rl_ HO_19.out) k_ hk⟩)); (case aO => exact (ra_ HO_6.out)); (case aS => exact (bz_ HB.out)); (case aL => have := LMc26.out; omega); intro v183 w29 ho hb hg hat; rw [← Ny182.out] at ho; have n0_ := Aside0.mk (Kd.R_after (ok := (fun k_ => some k_ ≠ (.slice Ao9 t175.length co9 : Value).ownBlock)) (by (with_reducible repeat (first | apply Kd.R_alloc | apply Kd.R_drewN | apply Kd.R_drew)); exact Kd.R_mono HO_5.out (fun _ hk => ⟨hk.2, hk.1⟩)) hg hat); have n1_ := Aside0.mk (Kd.R_after (ok := (fun k_ => some k_ ≠ (v170 : Value).ownBlock)) (ra_ HO_19.out) hg hat); have n2_ := Aside0.mk (hb); have n3_ := Aside0.mk (ho); clear HO_5; clear HO_19; clear HB; clear HO_6; have HO_5 := n0_; have HO_19 := n1_; have HB := n2_; have HO184 := n3_; clear n0_ n1_ n2_ n3_; clear ho hb hg hat)))
         go_roundg k2
         case measure => have := HK1.out; have := HK2.out; omega
         case rel => exact ⟨(y182), (x8_2), ef_, H', ⟨by have := HK1.out; have := HK2.out; omega⟩, ⟨by (with_reducible repeat (first | apply Kd.R_alloc | apply Kd.R_drewN | apply Kd.R_drew)); exact Kd.R_mono HO_5.out (fun _ hk => hk.2)⟩, ⟨by (with_reducible repeat (first | apply Kd.R_alloc | apply Kd.R_drewN | apply Kd.R_drew)); exact Kd.R_mono HO184.out (fun _ hk => hk.1)⟩, ⟨bb_ HB.out⟩⟩
       ·rw [if_neg c26] at H
        exact absurd H (by simp)

/-! ### impl_ShortestCycle: function 107 -/
def impl_ShortestCycle.l0 : Nat → List (S94) → List Int → Int → Option (List Int)
 | 0, _, _, _ => none
 | k + 1, l, out, x => if x < 128 then ((impl_cycleFrom.f k l x).bind fun own => (if own = [] then (impl_ShortestCycle.l0 k l out (wrap64 (x + 1))) else (if out = [] then (impl_ShortestCycle.l0 k l own (wrap64 (x + 1))) else (if (own.length : Int) < (out.length : Int) then (impl_ShortestCycle.l0 k l own (wrap64 (x + 1))) else (impl_ShortestCycle.l0 k l out (wrap64 (x + 1))))))) else (some out)
def impl_ShortestCycle.f (k : Nat) (l : List (S94)) : Option (List Int) := (impl_DependsOk.f k l).bind fun b => (if b = true then (impl_ShortestCycle.l0 k l [] 0) else (some []))
theorem impl_ShortestCycle.mono_l : ∀ k l out x, LeO (impl_ShortestCycle.l0 k l out x) (impl_ShortestCycle.l0 (k + 1) l out x)
 | 0, _, _, _ => fun r h => by simp [impl_ShortestCycle.l0] at h
 | k + 1, l, out, x => by
  have ih := impl_ShortestCycle.mono_l k
  unfold impl_ShortestCycle.l0
  exact LeO.ite (LeO.bind (impl_cycleFrom.mono _ _ _) (fun _ => LeO.ite (ih _ _ _) (LeO.ite (ih _ _ _) (LeO.ite (ih _ _ _) (ih _ _ _))))) (LeO.refl _)
theorem impl_ShortestCycle.mono (l : List (S94)) : ∀ k, LeO (impl_ShortestCycle.f k l) (impl_ShortestCycle.f (k + 1) l) := by
 intro k
 unfold impl_ShortestCycle.f
 exact LeO.bind (impl_DependsOk.mono _ _) (fun _ => LeO.ite (impl_ShortestCycle.mono_l _ _ _ _) (LeO.refl _))
theorem eq_nil_slice (W : World) (a : Option Addr) (n c : Nat) : (binOp .eql 29 (.slice a n c) (.slice none 0 0)).run Try.prog W = .ok (.bool a.isNone) W := Lib.run_eql_slice_nil W 29 _ a n c 0 0 Try.underlying29
theorem ne_nil_slice (W : World) (a : Option Addr) (n c : Nat) : (binOp .neq 29 (.slice a n c) (.slice none 0 0)).run Try.prog W = .ok (.bool (!a.isNone)) W := by
 simp only [binOp]
 simp [Op.equal, Op.maxDepth, Lib.run_equalIn_slice_nil W 9999 29 _ a n c 0 0 Try.underlying29]
theorem impl_ShortestCycle.nn {w : World} {base : Nat} {ok : Nat → Prop} {v : Value} {xs : List Int} (h : Kd.R (Kd.int .i64) 3 w base ok v xs) (hn : xs ≠ []) : ∃ (ad : Addr) (c : Nat), v = .slice (some ad) xs.length c := Kd.R_slice1 h (by cases xs with | nil => exact absurd rfl hn | cons x xs => simp)
theorem impl_ShortestCycle.e0 {P : Prop} (h : P := by
 go_wp2_with (first | (go_at_call 137; (with_reducible refine (impl_cycleFrom.callsN k1 A0 c0 l0 x [] _ ?side1 HC0.out A3.out).mono ?_); (case side1 => exact cb_ HR0.out HB.out); rintro e w_0 ⟨v5, rfl, ho, hb, hn⟩; obtain rfl := hn rfl; have HO5 := Aside0.mk (Kd.R_lower ho (bz_ HB.out)); replace HO := Aside0.mk (Kd.R_below HO.out hb); replace HB := Aside0.mk (bs_ HB.out hb); clear ho hb hn) | (go_at_call 137; (with_reducible refine (impl_cycleFrom.callsN k1 A0 c0 l0 x own _ ?side1 HC0.out A3.out).mono ?_); (case side1 => exact cb_ HR0.out HB.out); rintro e w_0 ⟨v5, rfl, ho, hb, hn⟩; obtain ⟨ad5, c5, rfl⟩ := impl_ShortestCycle.nn ho hown; have HO5 := Aside0.mk (Kd.R_lower ho (bz_ HB.out)); replace HO := Aside0.mk (Kd.R_below HO.out hb); replace HB := Aside0.mk (bs_ HB.out hb); clear ho hb hn))
 go_roundg k1
 case measure => omega
 case rel => exact ⟨out, wrap64 (x + 1), ef_, H', ⟨by have := HK1.out; omega⟩, HO, ⟨fun e_ => absurd e_ hout⟩, ⟨bb_ HB.out⟩⟩) : P := h
theorem impl_ShortestCycle.e1 {P : Prop} (h : P := by
 go_wp2_with (first | (go_at_call 137; (with_reducible refine (impl_cycleFrom.callsN k1 A0 c0 l0 x own _ ?side1 HC0.out A3.out).mono ?_); (case side1 => exact cb_ HR0.out HB.out); rintro e w_0 ⟨v5, rfl, ho, hb, hn⟩; obtain ⟨ad5, c5, rfl⟩ := impl_ShortestCycle.nn ho hown; have HO5 := Aside0.mk (Kd.R_lower ho (bz_ HB.out)); replace HO := Aside0.mk (Kd.R_below HO.out hb); replace HB := Aside0.mk (bs_ HB.out hb); clear ho hb hn))
 go_roundg k1
 case measure => omega
 case rel => exact ⟨own, wrap64 (x + 1), ef_, H', ⟨by have := HK1.out; omega⟩, HO5, ⟨fun e_ => absurd e_ hown⟩, ⟨bb_ HB.out⟩⟩) : P := h
set_option maxHeartbeats 4000000 in
set_option maxRecDepth 100000 in
theorem impl_ShortestCycle.calls (k : Nat) (A0 : Option Addr) (c0 : Nat) (l0 : List (S94)) (r : List Int) (w : World) (hr0 : Kd.C k94 w A0 l0.length l0) (hc0 : l0.length ≤ c0) (h : impl_ShortestCycle.f k l0 = some r) :
  Calls Try.prog 107 #[.slice A0 l0.length c0] w fun e w' => ∃ v0_ : Value, e = .returned (v0_) ∧ Kd.R (Kd.int .i64) 3 w' w.heap.size (fun _ => True) v0_ r ∧ Below w.heap.size w w' := by
 have HR0 := Aside0.mk hr0
 have HC0 := Aside0.mk hc0
 clear hr0 hc0
 have HB := Aside0.mk (Below.refl w.heap.size w)
 have hEQ := eq_nil_slice
 have hNE := ne_nil_slice
 unfold impl_ShortestCycle.f at h
 obtain ⟨b1, A10, h⟩ := Option.bind_eq_some_iff.1 h
 have A1 := Aside0.mk A10
 clear A10
 cases b1 with
 | false =>
  have h1 : some ([] : List Int) = some r := h
  obtain rfl := Option.some.inj h1
  clear h h1
  go_enter Try.func107, Try.ntmps107
  go_wp2_with (first | (go_at_call 124; (with_reducible refine (impl_DependsOk.calls k A0 c0 l0 _ _ ?side1 HC0.out A1.out).mono ?_); (case side1 => exact HR0.out); rintro e w1 ⟨rfl, hb⟩; replace HB := Aside0.mk (bs_ HB.out hb); (try clear hb)))
  go_ret
  exact ⟨_, fin_, Kd.R_nil _ _ _ _ _, bb_ HB.out⟩
 | true =>
  rw [if_pos rfl] at h
  have A2_ := Aside0.mk h
  clear h
  go_enter Try.func107, Try.ntmps107
  go_wp2_with (first | (go_at_call 124; (with_reducible refine (impl_DependsOk.calls k A0 c0 l0 _ _ ?side1 HC0.out A1.out).mono ?_); (case side1 => exact HR0.out); rintro e w1 ⟨rfl, hb⟩; replace HB := Aside0.mk (bs_ HB.out hb); (try clear hb)))
  go_loopg [3, 9] k (fun kq v3 v9 w' => ∃ (out : List Int) (x : Int), v9 = .int .i64 x ∧ Aside0 (impl_ShortestCycle.l0 kq l0 out x = some r) ∧ Aside0 (kq ≤ k) ∧ Aside0 (Kd.R (Kd.int .i64) 3 w' w.heap.size (fun _ => True) v3 out) ∧ Aside0 (out = [] → v3 = .slice none 0 0) ∧ Aside0 (Below w.heap.size w w'))
  case atStart => exact ⟨[], 0, ef_, A2_, ⟨Nat.le_refl _⟩, ⟨Kd.R_nil _ _ _ _ _⟩, ⟨fun _ => rfl⟩, ⟨bb_ HB.out⟩⟩
  case round =>
   clear A1 A2_ HB
   obtain ⟨out, x, rfl, HA, HK1, HO, HN, HB⟩ := hrel
   cases gk with
   | zero => exact absurd HA.out (by simp [impl_ShortestCycle.l0])
   | succ k1 =>
    have H := HA.out
    clear HA
    simp only [impl_ShortestCycle.l0] at H
    by_cases c1 : x < 128
    ·rw [if_pos c1] at H
     have c1b : decide (x < 128) = true := decide_eq_true c1
     clear c1
     obtain ⟨own, A30, H⟩ := Option.bind_eq_some_iff.1 H
     have A3 := Aside0.mk A30
     clear A30
     have hout0 : (out = [] ∧ u3 = .slice none 0 0) ∨ (out ≠ [] ∧ ∃ (ad : Addr) (c : Nat), u3 = .slice (some ad) out.length c) := by
      by_cases h : out = []
      ·exact Or.inl ⟨h, HN.out h⟩
      ·exact Or.inr ⟨h, impl_ShortestCycle.nn HO.out h⟩
     clear HN
     by_cases hown : own = []
     ·subst hown
      rw [if_pos rfl] at H
      have H' := Aside0.mk H
      clear H
      rcases hout0 with ⟨rfl, rfl⟩ | ⟨hout, ad3, c3, rfl⟩
      ·go_wp2_with (first | (go_at_call 137; (with_reducible refine (impl_cycleFrom.callsN k1 A0 c0 l0 x [] _ ?side1 HC0.out A3.out).mono ?_); (case side1 => exact cb_ HR0.out HB.out); rintro e w2 ⟨v5, rfl, ho, hb, hn⟩; obtain rfl := hn rfl; have HO5 := Aside0.mk (Kd.R_lower ho (bz_ HB.out)); replace HO := Aside0.mk (Kd.R_below HO.out hb); replace HB := Aside0.mk (bs_ HB.out hb); clear ho hb hn))
       go_roundg k1
       case measure => omega
       case rel => exact ⟨[], wrap64 (x + 1), ef_, H', ⟨by have := HK1.out; omega⟩, HO, ⟨fun _ => rfl⟩, ⟨bb_ HB.out⟩⟩
      ·exact impl_ShortestCycle.e0
     ·rw [if_neg hown] at H
      rcases hout0 with ⟨rfl, rfl⟩ | ⟨hout, ad3, c3, rfl⟩
      ·rw [if_pos rfl] at H
       have H' := Aside0.mk H
       clear H
       exact impl_ShortestCycle.e1
      ·rw [if_neg hout] at H
       by_cases c2 : (own.length : Int) < (out.length : Int)
       ·rw [if_pos c2] at H
        have H' := Aside0.mk H
        clear H
        have c2b : decide ((own.length : Int) < (out.length : Int)) = true := decide_eq_true c2
        have c2c : decide (own.length < out.length) = true := decide_eq_true (by omega)
        exact impl_ShortestCycle.e1
       ·rw [if_neg c2] at H
        have H' := Aside0.mk H
        clear H
        have c2b : decide ((own.length : Int) < (out.length : Int)) = false := decide_eq_false c2
        have c2c : decide (own.length < out.length) = false := decide_eq_false (by omega)
        exact impl_ShortestCycle.e0
    ·rw [if_neg c1] at H
     have c1b : decide (x < 128) = false := decide_eq_false c1
     clear c1
     obtain rfl := Option.some.inj H
     go_wp2
     go_ret
     exact ⟨_, fin_, HO.out, bb_ HB.out⟩

/-! ### impl_HasCycle: function 69 -/
def impl_HasCycle.f (k : Nat) (l0 : List (S94)) : Option (Bool) := (impl_ShortestCycle.f k l0).bind fun t185 => (some (decide ((t185.length : Int) > 0)))
theorem impl_HasCycle.mono : ∀ a0 k, LeO (impl_HasCycle.f k a0) (impl_HasCycle.f (k + 1) a0) := by
 intro a0 k
 unfold impl_HasCycle.f
 repeat' first
   | (with_reducible exact impl_ShortestCycle.mono _ _)
   | (with_reducible exact LeO.refl _)
   | (with_reducible exact LeO.none _)
   | (with_reducible refine LeO.ite ?_ ?_)
   | (with_reducible refine LeO.bind ?_ (fun _ => ?_))
   | exact impl_ShortestCycle.mono _ _
   | exact LeO.none _
   | refine LeO.ite ?_ ?_
   | refine LeO.bind ?_ (fun _ => ?_)
set_option maxHeartbeats 8000000 in
set_option maxRecDepth 100000 in
theorem impl_HasCycle.calls (k : Nat) (A0 : Option Addr) (c0 : Nat) (l0 : List (S94)) (r : Bool) (w : World) (hr0 : Kd.C k94 w A0 l0.length l0) (hc0 : l0.length ≤ c0) (h : impl_HasCycle.f k l0 = some r) :
  Calls Try.prog 69 #[.slice A0 l0.length c0] w fun e w' => e = .returned (.bool r) ∧ Below w.heap.size w w' := by
 have HR0 := Aside0.mk hr0
 have HC0 := Aside0.mk hc0
 clear hr0 hc0
 have HB := Aside0.mk (Below.refl w.heap.size w)
 have H : ((impl_ShortestCycle.f k l0).bind fun t185 => (some (decide ((t185.length : Int) > 0)))) = some r := h
 clear h
 replace H := Option.bind_eq_some_iff.mp H
 obtain ⟨t185, A20, H⟩ := H
 try dsimp only at H
 have A2 := Aside0.mk A20
 clear A20
 obtain rfl := Option.some.inj H
 go_enter Try.func69, Try.ntmps69
 go_wp2_with (first | ((with_reducible refine gate_callee (f := 107) rfl ?_); refine gm_ (some 4) Try.func107 #[.slice A0 l0.length c0] rfl ?_; (with_reducible refine (impl_ShortestCycle.calls k _ _ l0 t185 _ ?side1 HC0.out A2.out).mono ?_); (case side1 => repeat (first | exact HR0.out | (with_reducible refine Kd.C_alloc ?_ _) | (with_reducible refine Kd.C_drewN ?_ _) | (with_reducible refine Kd.C_drew ?_))); rintro e w3 ⟨v186, rfl, ho0, hb⟩; refine ⟨_, rfl, ?_⟩; have HO187 := Aside0.mk (Kd.R_lower ho0 (bz_ HB.out)); replace HB := Aside0.mk (bs_ HB.out hb); (try clear hb); (try clear ho0); obtain ⟨Ao4, co4, eo4⟩ := Kd.R_slice HO187.out; subst eo4))
 go_ret
 exact ⟨fin_, bb_ HB.out⟩

/-! ### impl_RingIsSafe: function 19 -/
def impl_RingIsSafe.f (k : Nat) (a0 : Int) (a1 : Bool) : Option (Bool) := (impl_isRing.f k a0 ([] : List Int)).bind fun t188 => (if t188 = true then ((impl_RingDepends.f k a0 a1).bind fun t189 => ((impl_HasCycle.f k t189).bind fun t192 => (some (!t192)))) else (some false))
theorem impl_RingIsSafe.mono : ∀ a0 a1 k, LeO (impl_RingIsSafe.f k a0 a1) (impl_RingIsSafe.f (k + 1) a0 a1) := by
 intro a0 a1 k
 unfold impl_RingIsSafe.f
 repeat' first
   | (with_reducible exact impl_HasCycle.mono _ _)
   | (with_reducible exact impl_RingDepends.mono _ _ _)
   | (with_reducible exact impl_isRing.mono _ _ _)
   | (with_reducible exact LeO.refl _)
   | (with_reducible exact LeO.none _)
   | (with_reducible refine LeO.ite ?_ ?_)
   | (with_reducible refine LeO.bind ?_ (fun _ => ?_))
   | exact impl_HasCycle.mono _ _
   | exact impl_RingDepends.mono _ _ _
   | exact impl_isRing.mono _ _ _
   | exact LeO.none _
   | refine LeO.ite ?_ ?_
   | refine LeO.bind ?_ (fun _ => ?_)
theorem impl_RingIsSafe.e0 {P : Prop} (h : P := by
 go_enter Try.func19, Try.ntmps19
 go_wp2_with (first | ((with_reducible refine gate_callee (f := 64) rfl ?_); refine gm_ (some 6) Try.func64 #[.int .i64 a0, .slice none 0 0] rfl ?_; (refine (impl_isRing.calls k a0 _ _ ([] : List Int) _ _ ?side1 ?side2 A3.out).mono ?_); (case side1 => exact Kd.C_nil _ _); (case side2 => exact Nat.le_refl _); rintro e w' ⟨rfl, ⟨nd, rfl⟩⟩; refine ⟨_, rfl, ?_⟩) | (go_at_call 14; (with_reducible refine (impl_RingDepends.calls k a0 a1 t189 _ A5.out).mono ?_); rintro e w_0 ⟨v190, rfl, ho0, hb⟩; have HO191 := Aside0.mk (Kd.R_lower ho0 (bz_ HB.out)); replace HB := Aside0.mk (bs_ HB.out hb); (try clear hb); (try clear ho0); obtain ⟨Ao8, co8, eo8⟩ := Kd.R_slice HO191.out; subst eo8) | (go_at_call 69; (with_reducible refine (impl_HasCycle.calls k _ _ t189 t192 _ ?side1 ?side2 A6.out).mono ?_); (case side1 => repeat (first | exact (Kd.R_reads' HO191.out).2.2 | (with_reducible refine Kd.C_alloc ?_ _) | (with_reducible refine Kd.C_drewN ?_ _) | (with_reducible refine Kd.C_drew ?_))); (case side2 => exact (Kd.R_reads' HO191.out).2.1); rintro e w_0 ⟨rfl, hb⟩; replace HO191 := Aside0.mk (Kd.R_below (ra_ HO191.out) hb); replace HB := Aside0.mk (bs_ HB.out hb); (try clear hb)))
 go_ret
 exact ⟨fin_, bb_ HB.out⟩) : P := h
set_option maxHeartbeats 8000000 in
set_option maxRecDepth 100000 in
theorem impl_RingIsSafe.calls (k : Nat) (a0 : Int) (a1 : Bool) (r : Bool) (w : World) (h : impl_RingIsSafe.f k a0 a1 = some r) :
  Calls Try.prog 19 #[.int .i64 a0, .bool a1] w fun e w' => e = .returned (.bool r) ∧ Below w.heap.size w w' := by
 have HB := Aside0.mk (Below.refl w.heap.size w)
 have H : ((impl_isRing.f k a0 ([] : List Int)).bind fun t188 => (if t188 = true then ((impl_RingDepends.f k a0 a1).bind fun t189 => ((impl_HasCycle.f k t189).bind fun t192 => (some (!t192)))) else (some false))) = some r := h
 clear h
 replace H := Option.bind_eq_some_iff.mp H
 obtain ⟨t188, A30, H⟩ := H
 try dsimp only at H
 have A3 := Aside0.mk A30
 clear A30
 by_cases c4 : t188 = true
 ·subst c4
  rw [if_pos rfl] at H
  replace H := Option.bind_eq_some_iff.mp H
  obtain ⟨t189, A50, H⟩ := H
  try dsimp only at H
  have A5 := Aside0.mk A50
  clear A50
  replace H := Option.bind_eq_some_iff.mp H
  obtain ⟨t192, A60, H⟩ := H
  try dsimp only at H
  have A6 := Aside0.mk A60
  clear A60
  obtain rfl := Option.some.inj H
  exact impl_RingIsSafe.e0
 ·replace c4 := Bool.eq_false_iff.mpr c4
  subst c4
  rw [if_neg (show ¬ (false = true) by decide)] at H
  obtain rfl := Option.some.inj H
  exact impl_RingIsSafe.e0

/-! ### laws_big: function 20 -/
def laws_big.f (l0 : List Int) : Option (Bool) := some (decide ((l0.length : Int) > 1048576))
set_option maxHeartbeats 8000000 in
set_option maxRecDepth 100000 in
theorem laws_big.calls (A0 : Option Addr) (c0 : Nat) (l0 : List Int) (r : Bool) (w : World) (hr0 : Kd.C (Kd.int .u8) w A0 l0.length l0) (hc0 : l0.length ≤ c0) (h : laws_big.f l0 = some r) :
  Calls Try.prog 20 #[.slice A0 l0.length c0] w fun e w' => e = .returned (.bool r) ∧ Drawn0 w w' := by
 have HR0 := Aside0.mk hr0
 have HC0 := Aside0.mk hc0
 clear hr0 hc0
 have H : (some (decide ((l0.length : Int) > 1048576))) = some r := h
 clear h
 obtain rfl := Option.some.inj H
 go_enter Try.func20, Try.ntmps20
 go_wp2
 go_ret
 exact ⟨by first | rfl | (simp; done) | (simp [*]; done), by repeat (first | exact Drawn0.refl _ | apply Drawn0.step)⟩

end Go.Proofs.Ytimdefbpoddoaaa.PFnRings
-- thin
