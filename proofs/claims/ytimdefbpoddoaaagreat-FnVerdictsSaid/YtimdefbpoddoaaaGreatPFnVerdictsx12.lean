/- The law's functions as plain functions, and their calls. No condition. -/
import Derived.Test.YtimdefbpoddoaaaGreatPFnVerdictsx0
import Derived.Test.YtimdefbpoddoaaaGreatPFnVerdictsx9
import Derived.Test.YtimdefbpoddoaaaGreatPFnVerdictsx10
import Derived.Test.YtimdefbpoddoaaaGreatPFnVerdictsx11
namespace Go.Proofs.YtimdefbpoddoaaaGreat.PFnVerdicts
open Go.RowKit Go.Proofs.YtimdefbpoddoaaaGreatW.PrintWords Go.Proofs.YtimdefbpoddoaaaGreatW.PrintLast Go.Proofs.YtimdefbpoddoaaaGreatW.PrintMore
attribute [local go_sem] max2_int min2_int max_two min_two max_three min_three max_four min_four
set_option linter.unusedVariables false
set_option maxHeartbeats 8000000
set_option maxRecDepth 100000
set_option linter.unusedSimpArgs false

/-! ### impl_SuccessorsOf: function 120 -/
def impl_SuccessorsOf.l0 : Nat → Int → List Int → List (S98) → Int → Int → Option (List Int)
 | 0, _, _, _, _, _ => none
 | k + 1, x1, x5, x9, x10, x11 => if x11 < x10 then (if 0 ≤ x11 then (if x11 < (x9.length : Int) then (if ((rd_T98 x9 x11).f0) = x1 then (if x5.length < 17592186044416 then (impl_SuccessorsOf.l0 k x1 (x5 ++ [(rd_T98 x9 x11).f1]) x9 x10 (wrap64 (x11 + 1))) else (none)) else (impl_SuccessorsOf.l0 k x1 x5 x9 x10 (wrap64 (x11 + 1)))) else (none)) else (none)) else (some x5)
def impl_SuccessorsOf.f (k : Nat) (l0 : List (S98)) (a1 : Int) : Option (List Int) := impl_SuccessorsOf.l0 k a1 (([] : List Int)) l0 (l0.length : Int) 0
theorem impl_SuccessorsOf.mono_l : ∀ k, (∀ y0 y1 y2 y3 y4, LeO (impl_SuccessorsOf.l0 k y0 y1 y2 y3 y4) (impl_SuccessorsOf.l0 (k + 1) y0 y1 y2 y3 y4))
 | 0 => fun _ _ _ _ _ r h => by simp [impl_SuccessorsOf.l0] at h
 | k + 1 => by
  have ih0 := impl_SuccessorsOf.mono_l k
  ·intro y0 y1 y2 y3 y4
   unfold impl_SuccessorsOf.l0
   repeat' (with_reducible first | exact ih0 .. | exact LeO.refl .. | exact LeO.none .. | refine LeO.ite ?_ ?_ | refine LeO.bind ?_ (fun _ => ?_))
theorem impl_SuccessorsOf.mono : ∀ a0 a1 k, LeO (impl_SuccessorsOf.f k a0 a1) (impl_SuccessorsOf.f (k + 1) a0 a1) := by
 intro a0 a1 k
 have ih0 := impl_SuccessorsOf.mono_l k
 unfold impl_SuccessorsOf.f
 repeat' (with_reducible first | exact ih0 .. | exact LeO.refl .. | exact LeO.none .. | refine LeO.ite ?_ ?_ | refine LeO.bind ?_ (fun _ => ?_))
theorem impl_SuccessorsOf.calls (k : Nat) (A0 : Option Addr) (c0 : Nat) (l0 : List (S98)) (a1 : Int) (r : List Int) (w : World) (hr0 : Kd.C k98 w A0 l0.length l0) (hc0 : l0.length ≤ c0) (h : impl_SuccessorsOf.f k l0 a1 = some r) :
  Calls Tryz.prog 120 #[.slice A0 l0.length c0, .int .i64 a1] w fun e w' => ∃ v0_ : Value, e = .returned (v0_) ∧ Kd.R (Kd.int .i64) 3 w' w.heap.size (fun _ => True) v0_ r ∧ Below w.heap.size w w' := by
 have hu98 := Tryz.underlying98
 have HR0 := Aside0.mk hr0
 have HC0 := Aside0.mk hc0
 clear hr0 hc0
 have HB := Aside0.mk (Below.refl w.heap.size w)
 have H : (impl_SuccessorsOf.l0 k a1 (([] : List Int)) l0 (l0.length : Int) 0) = some r := h
 clear h
 obtain ⟨y407, hy407⟩ : ∃ y_ : List Int, y_ = (([] : List Int)) := ⟨_, rfl⟩
 replace H : (impl_SuccessorsOf.l0 k a1 y407 l0 (l0.length : Int) 0) = some r := by first | (rw [hy407]; with_reducible exact H) | (have H2_ := (Option.bind_some _ _).symm.trans H; rw [hy407]; with_reducible exact H2_) | (have H2_ := (Option.bind_some _ _).symm.trans H; with_reducible exact H2_) | with_reducible exact H | (rw [hy407]; exact H) | exact H
 have Ny407 := Aside0.mk hy407
 clear hy407
 have H' := Aside0.mk H
 clear H
 go_enter Tryz.func120, Tryz.ntmps120
 go_wp2_with (first | ((with_reducible refine gate_dst (N := 8) rfl ?_); refine Kd.R_lit (Kd.int .i64) _ 3 ?hg (N := 8) ?hd (xs := ([] : List Int)) (inner := []) (ok := fun _ => True) (okp := fun _ => True) ?hr ?hp (fun _ hk => hk) trivial (Below.refl _ _) (Nat.le_refl _) (by simp) ?_; (case hd => rfl); (case hg => rfl); (case hr => first | (go_simp; done) | (go_simp; rfl)); (case hp => exact (Reps.none _ _)); intro v408 w3 ho4 hb hg_ hnew_; clear hg_ hnew_; (first | rw [← Ny407.out] at ho4 | (simp only [Int.reduceToNat] at ho4; rw [← Ny407.out] at ho4)); have HO409 := Aside0.mk (Kd.R_lower ho4 (bz_ HB.out)); replace HB := hs_ HB hb; clear hb ho4))
 go_loopg [5, 11] k (fun kq v5 v11 w' => ∃ (x5_1 : List Int) (x11_1 : Int), v11 = .int .i64 x11_1 ∧ Aside0 (impl_SuccessorsOf.l0 kq a1 x5_1 l0 (l0.length : Int) x11_1 = some r) ∧ Aside0 (kq ≤ k) ∧ Aside0 (Kd.R (Kd.int .i64) 3 w' w.heap.size (fun _ => True) v5 x5_1) ∧ Aside0 (Below w.heap.size w w'))
 case atStart => exact ⟨(y407), (0), ef_, H', ⟨Nat.le_refl _⟩, ⟨ra_ HO409.out⟩, ⟨bb_ HB.out⟩⟩
 clear H'
 obtain ⟨x5_1, x11_1, rfl, HA, HK1, HO_5, HB⟩ := hrel
 obtain _ | k1 := gk
 ·exact absurd HA.out (by simp [impl_SuccessorsOf.l0])
 have H := HA.out
 clear HA
 simp only [impl_SuccessorsOf.l0] at H
 by_cases c5 : x11_1 < (l0.length : Int)
 rotate_left
 ·rw [if_neg c5] at H
  have c5b0 : decide (x11_1 < (l0.length : Int)) = false := decide_eq_false c5
  clear c5
  obtain rfl := Option.some.inj H
  go_wp2
  go_ret
  exact ⟨_, fin_, ra_ HO_5.out, bb_ HB.out⟩
 rw [if_pos c5] at H
 have c5b0 : decide (x11_1 < (l0.length : Int)) = true := decide_eq_true c5
 clear c5
 by_cases c6 : 0 ≤ x11_1
 rotate_left
 ·rw [if_neg c6] at H
  exact absurd H (by simp)
 rw [if_pos c6] at H
 have c6b0 : decide (0 ≤ x11_1) = true := decide_eq_true c6
 clear c6
 by_cases c7 : x11_1 < (l0.length : Int)
 rotate_left
 ·rw [if_neg c7] at H
  exact absurd H (by simp)
 rw [if_pos c7] at H
 have c7b0 : decide (x11_1 < (l0.length : Int)) = true := decide_eq_true c7
 clear c7
 by_cases c8 : ((rd_T98 l0 x11_1).f0) = a1
 rotate_left
 ·rw [if_neg c8] at H
  have c8b0 : (((rd_T98 l0 x11_1).f0) == a1) = false := beq_eq_false_iff_ne.mpr c8
  have c8b1 : (((rd_T98 l0 x11_1).f0) != a1) = true := bne_iff_ne.mpr c8
  have H' := Aside0.mk H
  clear H
  have p410 : 0 ≤ (x11_1 : Int) := of_decide_eq_true dg_
  have q410 : x11_1 < (l0.length : Int) := of_decide_eq_true dg_
  obtain ⟨ad410, e410, hx410_0, hx410_1⟩ := at_T98 HR0.out x11_1 p410 q410
  cases e410
  replace hx410_0 := hc_ HB hx410_0
  replace hx410_1 := hc_ HB hx410_1
  replace p410 := eq_true p410
  replace q410 := eq_true q410
  go_wp2_with (first | ((with_reducible refine gate_dst (N := 7) rfl ?_); refine box_event ?hg (N := 7) ?hd (cs := #[.int .i64 0, .int .i64 0]) (t := 98) ?hr ?_; (case hd => rfl); (case hg => rfl); (case hr => first | (go_simp; done) | (go_simp; rfl)); intro gb411 hg w13 hbox hb; replace HO_5 := rb_ HO_5 hb; have BK411 := Aside0.mk (hbox); have GW411 := gw_ hg HB; have GE411 := gw_ hg HB; replace HB := hs_ HB hb; clear hb hbox hg; obtain ⟨hcz14_0, hcz14_1, hfz14_0, hfz14_1⟩ := cz2_ BK411.out))
  go_roundg k1
  case measure => have := HK1.out; omega
  case rel => exact ⟨(x5_1), (wrap64 (x11_1 + 1)), ef_, H', ⟨by have := HK1.out; omega⟩, ⟨rm_ (Kd.R_types HO_5.out BK411.out (by decide)) (fun _ hk => trivial)⟩, ⟨bb_ HB.out⟩⟩
 rw [if_pos c8] at H
 have c8b0 : (((rd_T98 l0 x11_1).f0) == a1) = true := beq_iff_eq.mpr c8
 have c8b1 : (((rd_T98 l0 x11_1).f0) != a1) = false := bne_eq_false_iff_eq.mpr c8
 clear c8
 by_cases c9 : x5_1.length < 17592186044416
 rotate_left
 ·rw [if_neg c9] at H
  exact absurd H (by simp)
 rw [if_pos c9] at H
 have LMc9 := Aside0.mk c9
 clear c9
 obtain ⟨y412, hy412⟩ : ∃ y_ : List Int, y_ = (x5_1 ++ [(rd_T98 l0 x11_1).f1]) := ⟨_, rfl⟩
 replace H : (impl_SuccessorsOf.l0 k1 a1 y412 l0 (l0.length : Int) (wrap64 (x11_1 + 1))) = some r := by first | (rw [hy412]; with_reducible exact H) | (have H2_ := (Option.bind_some _ _).symm.trans H; rw [hy412]; with_reducible exact H2_) | (have H2_ := (Option.bind_some _ _).symm.trans H; with_reducible exact H2_) | with_reducible exact H | (rw [hy412]; exact H) | exact H
 have Ny412 := Aside0.mk hy412
 clear hy412
 have H' := Aside0.mk H
 clear H
 have p410 : 0 ≤ (x11_1 : Int) := of_decide_eq_true dg_
 have q410 : x11_1 < (l0.length : Int) := of_decide_eq_true dg_
 obtain ⟨ad410, e410, hx410_0, hx410_1⟩ := at_T98 HR0.out x11_1 p410 q410
 cases e410
 replace hx410_0 := hc_ HB hx410_0
 replace hx410_1 := hc_ HB hx410_1
 replace p410 := eq_true p410
 replace q410 := eq_true q410
 go_wp2_with (first | ((with_reducible refine gate_dst (N := 7) rfl ?_); refine box_event ?hg (N := 7) ?hd (cs := #[.int .i64 0, .int .i64 0]) (t := 98) ?hr ?_; (case hd => rfl); (case hg => rfl); (case hr => first | (go_simp; done) | (go_simp; rfl)); intro gb411 hg w10 hbox hb; replace HO_5 := rb_ HO_5 hb; have BK411 := Aside0.mk (hbox); have GW411 := gw_ hg HB; have GE411 := gw_ hg HB; replace HB := hs_ HB hb; clear hb hbox hg; obtain ⟨hcz11_0, hcz11_1, hfz11_0, hfz11_1⟩ := cz2_ BK411.out) | ((with_reducible refine gate_builtin (b := .append) (xs := #[.tmp 19, .tmp 22]) rfl ?_); at_builtin; refine Kd.R_append (Kd.int .i64) (w0 := w) w.heap.size rfl (.tmp 19) (.tmp 22) 24 3 (.int .i64 0) 8 rfl Tryz.underlying24 info3 rfl (by decide) (by omega) u5 x5_1 ((rd_T98 l0 x11_1).f1) [.int .i64 ((rd_T98 l0 x11_1).f1)] (fun _ => True) (fun _ => False) rfl (by first | (go_simp; done) | (go_simp; rfl)) ?aP (fun _ hk => hk.elim) ?aF ?aO ?aB ?aS ?aL ?_; (case aP => exact rfl); (case aB => exact (by repeat (first | (with_reducible first | exact HB.out | apply below_alloc | apply pw_below_drewN | apply below_drew1 | refine below_set ?_ GE411.out) | exact HB.out))); (case aF => exact (fun _ _ => trivial)); (case aO => exact (rm_ (Kd.R_types HO_5.out BK411.out (by decide)) (fun _ hk => trivial))); (case aS => exact (bz_ HB.out)); (case aL => have := LMc9.out; omega); intro v413 w12 ho hb hg hat; rw [← Ny412.out] at ho; have n0_ := Aside0.mk (blk_grown (g := gb411) (o := .cells #[.int .i64 ((rd_T98 l0 x11_1).f0), .int .i64 ((rd_T98 l0 x11_1).f1)] 98 (0, 0)) (by (with_reducible repeat (first | refine blk_drewN ?_ _ | refine blk_drew ?_ | refine blk_alloc ?_ _)); refine blk_put (cs := #[.int .i64 ((rd_T98 l0 x11_1).f0), .int .i64 0]) ?_ 1 _ rfl; (with_reducible repeat (first | refine blk_drewN ?_ _ | refine blk_drew ?_ | refine blk_alloc ?_ _)); refine blk_put (cs := #[.int .i64 0, .int .i64 0]) ?_ 0 _ rfl; (with_reducible repeat (first | refine blk_drewN ?_ _ | refine blk_drew ?_ | refine blk_alloc ?_ _)); exact BK411.out) hg (Kd.R_ne HO_5.out BK411.out (by decide))); have n1_ := Aside0.mk (hb); have n2_ := Aside0.mk (ho); clear BK411; clear HB; clear HO_5; have BK411 := n0_; have HB := n1_; have HO414 := n2_; clear n0_ n1_ n2_; clear ho hb hg hat))
 go_roundg k1
 case measure => have := HK1.out; omega
 case rel => exact ⟨(y412), (wrap64 (x11_1 + 1)), ef_, H', ⟨by have := HK1.out; omega⟩, ⟨ra_ HO414.out⟩, ⟨bb_ HB.out⟩⟩

/-! ### impl_cycleFrom: function 96 -/
mutual
def impl_cycleFrom.l0 : Nat → List (S98) → Int → List Int → List Int → Int → Option (List Int)
 | 0, _, _, _, _, _ => none
 | k + 1, x0, x1, x5, x6, x7 => (impl_SuccessorsOf.f k x0 x7).bind fun t421 => (impl_cycleFrom.l1 k x0 x1 x5 x6 x7 (-1) t421 (t421.length : Int) 0)
def impl_cycleFrom.l1 : Nat → List (S98) → Int → List Int → List Int → Int → Int → List Int → Int → Int → Option (List Int)
 | 0, _, _, _, _, _, _, _, _, _ => none
 | k + 1, x0, x1, x5, x6, x7, x8, x19, x20, x21 => if x21 < x20 then (if 0 ≤ x21 then (if x21 < (x19.length : Int) then (if (rd x19 x21) ≥ x1 then (if 0 ≤ (rd x19 x21) then (if (rd x19 x21) < (x5.length : Int) then (if (rd x5 (rd x19 x21)) ≥ 0 then (if x8 < 0 then (impl_cycleFrom.l1 k x0 x1 x5 x6 x7 (rd x19 x21) x19 x20 (wrap64 (x21 + 1))) else (if 0 ≤ x8 then (if x8 < (x5.length : Int) then (if (rd x5 (rd x19 x21)) < (rd x5 x8) then (impl_cycleFrom.l1 k x0 x1 x5 x6 x7 (rd x19 x21) x19 x20 (wrap64 (x21 + 1))) else (impl_cycleFrom.l1 k x0 x1 x5 x6 x7 x8 x19 x20 (wrap64 (x21 + 1)))) else (none)) else (none))) else (impl_cycleFrom.l1 k x0 x1 x5 x6 x7 x8 x19 x20 (wrap64 (x21 + 1)))) else (none)) else (none)) else (impl_cycleFrom.l1 k x0 x1 x5 x6 x7 x8 x19 x20 (wrap64 (x21 + 1)))) else (none)) else (none)) else (if x8 < 0 then (some ([] : List Int)) else (if x6.length < 17592186044416 then ((some (x6 ++ [x7] : List Int)).bind fun y428 => (if x8 = x1 then (some y428) else (impl_cycleFrom.l0 k x0 x1 x5 y428 x8))) else (none)))
end
def impl_cycleFrom.f (k : Nat) (l0 : List (S98)) (a1 : Int) : Option (List Int) := (impl_distancesTo.f k l0 a1 a1).bind fun t415 => (impl_cycleFrom.l0 k l0 a1 t415 (([] : List Int)) a1)
theorem impl_cycleFrom.mono_l : ∀ k, (∀ y0 y1 y2 y3 y4, LeO (impl_cycleFrom.l0 k y0 y1 y2 y3 y4) (impl_cycleFrom.l0 (k + 1) y0 y1 y2 y3 y4)) ∧ (∀ y0 y1 y2 y3 y4 y5 y6 y7 y8, LeO (impl_cycleFrom.l1 k y0 y1 y2 y3 y4 y5 y6 y7 y8) (impl_cycleFrom.l1 (k + 1) y0 y1 y2 y3 y4 y5 y6 y7 y8))
 | 0 => ⟨fun _ _ _ _ _ r h => by simp [impl_cycleFrom.l0] at h, fun _ _ _ _ _ _ _ _ _ r h => by simp [impl_cycleFrom.l1] at h⟩
 | k + 1 => by
  obtain ⟨ih0, ih1⟩ := impl_cycleFrom.mono_l k
  refine ⟨?_, ?_⟩
  ·intro y0 y1 y2 y3 y4
   unfold impl_cycleFrom.l0
   repeat' (with_reducible first | exact ih0 .. | exact ih1 .. | exact impl_SuccessorsOf.mono .. | exact impl_distancesTo.mono .. | exact LeO.refl .. | exact LeO.none .. | refine LeO.ite ?_ ?_ | refine LeO.bind ?_ (fun _ => ?_))
  ·intro y0 y1 y2 y3 y4 y5 y6 y7 y8
   unfold impl_cycleFrom.l1
   repeat' (with_reducible first | exact ih0 .. | exact ih1 .. | exact impl_SuccessorsOf.mono .. | exact impl_distancesTo.mono .. | exact LeO.refl .. | exact LeO.none .. | refine LeO.ite ?_ ?_ | refine LeO.bind ?_ (fun _ => ?_))
theorem impl_cycleFrom.mono : ∀ a0 a1 k, LeO (impl_cycleFrom.f k a0 a1) (impl_cycleFrom.f (k + 1) a0 a1) := by
 intro a0 a1 k
 obtain ⟨ih0, ih1⟩ := impl_cycleFrom.mono_l k
 unfold impl_cycleFrom.f
 repeat' (with_reducible first | exact ih0 .. | exact ih1 .. | exact impl_SuccessorsOf.mono .. | exact impl_distancesTo.mono .. | exact LeO.refl .. | exact LeO.none .. | refine LeO.ite ?_ ?_ | refine LeO.bind ?_ (fun _ => ?_))
theorem impl_cycleFrom.callsN (k : Nat) (A0 : Option Addr) (c0 : Nat) (l0 : List (S98)) (a1 : Int) (r : List Int) (w : World) (hr0 : Kd.C k98 w A0 l0.length l0) (hc0 : l0.length ≤ c0) (h : impl_cycleFrom.f k l0 a1 = some r) :
  Calls Tryz.prog 96 #[.slice A0 l0.length c0, .int .i64 a1] w fun e w' => ∃ v0_ : Value, e = .returned (v0_) ∧ Kd.R (Kd.int .i64) 3 w' w.heap.size (fun _ => True) v0_ r ∧ Below w.heap.size w w' ∧ (r = [] → v0_ = .slice none 0 0) := by
 have HR0 := Aside0.mk hr0
 have HC0 := Aside0.mk hc0
 clear hr0 hc0
 have HB := Aside0.mk (Below.refl w.heap.size w)
 have H : ((impl_distancesTo.f k l0 a1 a1).bind fun t415 => (impl_cycleFrom.l0 k l0 a1 t415 (([] : List Int)) a1)) = some r := h
 clear h
 obtain ⟨t415, A3, H⟩ := bi_ H
 obtain ⟨y418, hy418⟩ : ∃ y_ : List Int, y_ = (([] : List Int)) := ⟨_, rfl⟩
 replace H : (impl_cycleFrom.l0 k l0 a1 t415 y418 a1) = some r := by first | (rw [hy418]; with_reducible exact H) | (have H2_ := (Option.bind_some _ _).symm.trans H; rw [hy418]; with_reducible exact H2_) | (have H2_ := (Option.bind_some _ _).symm.trans H; with_reducible exact H2_) | with_reducible exact H | (rw [hy418]; exact H) | exact H
 have Ny418 := Aside0.mk hy418
 clear hy418
 have H' := Aside0.mk H
 clear H
 go_enter Tryz.func96, Tryz.ntmps96
 go_wp2_with (first | (go_at_call 119; (with_reducible refine (impl_distancesTo.calls k _ _ l0 a1 a1 t415 _ ?side1 HC0.out A3.out).mono ?_); (case side1 => repeat (first | exact HR0.out | (with_reducible refine Kd.C_alloc ?_ _) | (with_reducible refine Kd.C_drewN ?_ _) | (with_reducible refine Kd.C_drew ?_))); rintro e w4 ⟨v416, rfl, ho0, hb⟩; have HO417 := Aside0.mk (Kd.R_lower ho0 (bz_ HB.out)); replace HB := hs_ HB hb; (try clear hb); (try clear ho0)) | ((with_reducible refine gate_dst (N := 15) rfl ?_); refine Kd.R_lit (Kd.int .i64) _ 3 ?hg (N := 15) ?hd (xs := ([] : List Int)) (inner := []) (ok := fun _ => True) (okp := fun _ => True) ?hr ?hp (fun _ hk => hk) trivial (Below.refl _ _) (Nat.le_refl _) (by simp) ?_; (case hd => rfl); (case hg => rfl); (case hr => first | (go_simp; done) | (go_simp; rfl)); (case hp => exact (Reps.none _ _)); intro v419 w5 ho6 hb hg_ hnew_; clear hg_ hnew_; (first | rw [← Ny418.out] at ho6 | (simp only [Int.reduceToNat] at ho6; rw [← Ny418.out] at ho6)); have HO420 := Aside0.mk (Kd.R_lower (Kd.R_new' ho6 (rl_ HO417.out)) (bz_ HB.out)); replace HO417 := re_ HO417 ho6 hb; replace HB := hs_ HB hb; clear hb ho6))
 repeat (go_quiet (first | (go_at_call 119; (with_reducible refine (impl_distancesTo.calls k _ _ l0 a1 a1 t415 _ ?side1 HC0.out A3.out).mono ?_); (case side1 => repeat (first | exact HR0.out | (with_reducible refine Kd.C_alloc ?_ _) | (with_reducible refine Kd.C_drewN ?_ _) | (with_reducible refine Kd.C_drew ?_))); rintro e w4 ⟨v416, rfl, ho0, hb⟩; have HO417 := Aside0.mk (Kd.R_lower ho0 (bz_ HB.out)); replace HB := hs_ HB hb; (try clear hb); (try clear ho0)) | ((with_reducible refine gate_dst (N := 15) rfl ?_); refine Kd.R_lit (Kd.int .i64) _ 3 ?hg (N := 15) ?hd (xs := ([] : List Int)) (inner := []) (ok := fun _ => True) (okp := fun _ => True) ?hr ?hp (fun _ hk => hk) trivial (Below.refl _ _) (Nat.le_refl _) (by simp) ?_; (case hd => rfl); (case hg => rfl); (case hr => first | (go_simp; done) | (go_simp; rfl)); (case hp => exact (Reps.none _ _)); intro v419 w5 ho6 hb hg_ hnew_; clear hg_ hnew_; (first | rw [← Ny418.out] at ho6 | (simp only [Int.reduceToNat] at ho6; rw [← Ny418.out] at ho6)); have HO420 := Aside0.mk (Kd.R_lower (Kd.R_new' ho6 (rl_ HO417.out)) (bz_ HB.out)); replace HO417 := re_ HO417 ho6 hb; replace HB := hs_ HB hb; clear hb ho6)); try go_wp2_with (first | (go_at_call 119; (with_reducible refine (impl_distancesTo.calls k _ _ l0 a1 a1 t415 _ ?side1 HC0.out A3.out).mono ?_); (case side1 => repeat (first | exact HR0.out | (with_reducible refine Kd.C_alloc ?_ _) | (with_reducible refine Kd.C_drewN ?_ _) | (with_reducible refine Kd.C_drew ?_))); rintro e w4 ⟨v416, rfl, ho0, hb⟩; have HO417 := Aside0.mk (Kd.R_lower ho0 (bz_ HB.out)); replace HB := hs_ HB hb; (try clear hb); (try clear ho0)) | ((with_reducible refine gate_dst (N := 15) rfl ?_); refine Kd.R_lit (Kd.int .i64) _ 3 ?hg (N := 15) ?hd (xs := ([] : List Int)) (inner := []) (ok := fun _ => True) (okp := fun _ => True) ?hr ?hp (fun _ hk => hk) trivial (Below.refl _ _) (Nat.le_refl _) (by simp) ?_; (case hd => rfl); (case hg => rfl); (case hr => first | (go_simp; done) | (go_simp; rfl)); (case hp => exact (Reps.none _ _)); intro v419 w5 ho6 hb hg_ hnew_; clear hg_ hnew_; (first | rw [← Ny418.out] at ho6 | (simp only [Int.reduceToNat] at ho6; rw [← Ny418.out] at ho6)); have HO420 := Aside0.mk (Kd.R_lower (Kd.R_new' ho6 (rl_ HO417.out)) (bz_ HB.out)); replace HO417 := re_ HO417 ho6 hb; replace HB := hs_ HB hb; clear hb ho6)))
 go_loopg [6, 7] k (fun kq v6 v7 w' => ∃ (x6_1 : List Int) (x7_1 : Int), v7 = .int .i64 x7_1 ∧ Aside0 (impl_cycleFrom.l0 kq l0 a1 t415 x6_1 x7_1 = some r) ∧ Aside0 (kq ≤ k) ∧ Aside0 (Kd.R (Kd.int .i64) 3 w' w.heap.size (fun k_ => some k_ ≠ (v6 : Value).ownBlock) v416 t415) ∧ Aside0 (Kd.R (Kd.int .i64) 3 w' w.heap.size (fun k_ => some k_ ≠ (v416 : Value).ownBlock) v6 x6_1) ∧ Aside0 (Below w.heap.size w w'))
 case atStart => exact ⟨(y418), (a1), ef_, H', ⟨Nat.le_refl _⟩, ⟨by (with_reducible repeat (first | apply Kd.R_alloc | apply Kd.R_drewN | apply Kd.R_drew)); exact Kd.R_mono HO417.out (fun _ hk => hk.2)⟩, ⟨by (with_reducible repeat (first | apply Kd.R_alloc | apply Kd.R_drewN | apply Kd.R_drew)); exact Kd.R_mono HO420.out (fun _ hk => hk.2)⟩, ⟨bb_ HB.out⟩⟩
 clear H'
 try clear p2
 obtain ⟨x6_1, x7_1, rfl, HA, HK1, HO_5, HO_6, HB⟩ := hrel
 obtain _ | k1 := gk
 ·exact absurd HA.out (by simp [impl_cycleFrom.l0])
 have H := HA.out
 clear HA
 simp only [impl_cycleFrom.l0] at H
 obtain ⟨t421, A7, H⟩ := bi_ H
 have H' := Aside0.mk H
 clear H
 go_wp2_with (first | (go_at_call 120; (with_reducible refine (impl_SuccessorsOf.calls k1 _ _ l0 x7_1 t421 _ ?side1 HC0.out A7.out).mono ?_); (case side1 => exact cb_ HR0.out HB.out); rintro e w8 ⟨v422, rfl, ho0, hb⟩; have HO423 := Aside0.mk (Kd.R_lower (Kd.R_new' (Kd.R_new' ho0 (rl_ HO_5.out)) (rl_ HO_6.out)) (bz_ HB.out)); replace HO_5 := re_ HO_5 ho0 hb; replace HO_6 := re_ HO_6 ho0 hb; replace HB := hs_ HB hb; (try clear hb); (try clear ho0); obtain ⟨Ao9, co9, eo9⟩ := Kd.R_slice HO423.out; subst eo9))
 repeat (go_quiet (first | (go_at_call 120; (with_reducible refine (impl_SuccessorsOf.calls k1 _ _ l0 x7_1 t421 _ ?side1 HC0.out A7.out).mono ?_); (case side1 => exact cb_ HR0.out HB.out); rintro e w8 ⟨v422, rfl, ho0, hb⟩; have HO423 := Aside0.mk (Kd.R_lower (Kd.R_new' (Kd.R_new' ho0 (rl_ HO_5.out)) (rl_ HO_6.out)) (bz_ HB.out)); replace HO_5 := re_ HO_5 ho0 hb; replace HO_6 := re_ HO_6 ho0 hb; replace HB := hs_ HB hb; (try clear hb); (try clear ho0); obtain ⟨Ao9, co9, eo9⟩ := Kd.R_slice HO423.out; subst eo9)); try go_wp2_with (first | (go_at_call 120; (with_reducible refine (impl_SuccessorsOf.calls k1 _ _ l0 x7_1 t421 _ ?side1 HC0.out A7.out).mono ?_); (case side1 => exact cb_ HR0.out HB.out); rintro e w8 ⟨v422, rfl, ho0, hb⟩; have HO423 := Aside0.mk (Kd.R_lower (Kd.R_new' (Kd.R_new' ho0 (rl_ HO_5.out)) (rl_ HO_6.out)) (bz_ HB.out)); replace HO_5 := re_ HO_5 ho0 hb; replace HO_6 := re_ HO_6 ho0 hb; replace HB := hs_ HB hb; (try clear hb); (try clear ho0); obtain ⟨Ao9, co9, eo9⟩ := Kd.R_slice HO423.out; subst eo9)))
 go_loopg [8, 21] k1 (fun kq v8 v21 w' => ∃ (x8_2 : Int) (x21_2 : Int), v8 = .int .i64 x8_2 ∧ v21 = .int .i64 x21_2 ∧ Aside0 (impl_cycleFrom.l1 kq l0 a1 t415 x6_1 x7_1 x8_2 t421 (t421.length : Int) x21_2 = some r) ∧ Aside0 (kq ≤ k1) ∧ Aside0 (Kd.R (Kd.int .i64) 3 w' w.heap.size (fun k_ => some k_ ≠ (u6 : Value).ownBlock ∧ some k_ ≠ ((.slice Ao9 t421.length co9) : Value).ownBlock) v416 t415) ∧ Aside0 (Kd.R (Kd.int .i64) 3 w' w.heap.size (fun k_ => some k_ ≠ (v416 : Value).ownBlock ∧ some k_ ≠ ((.slice Ao9 t421.length co9) : Value).ownBlock) u6 x6_1) ∧ Aside0 (Kd.R (Kd.int .i64) 3 w' w.heap.size (fun k_ => some k_ ≠ (v416 : Value).ownBlock ∧ some k_ ≠ (u6 : Value).ownBlock) (.slice Ao9 t421.length co9) t421) ∧ Aside0 (Below w.heap.size w w'))
 case atStart => exact ⟨((-1)), (0), ef_, ef_, H', ⟨Nat.le_refl _⟩, ⟨ra_ HO_5.out⟩, ⟨ra_ HO_6.out⟩, ⟨by (with_reducible repeat (first | apply Kd.R_alloc | apply Kd.R_drewN | apply Kd.R_drew)); exact Kd.R_mono HO423.out (fun _ hk => ⟨hk.1.2, hk.2⟩)⟩, ⟨bb_ HB.out⟩⟩
 clear H'
 try clear p2
 try clear c9
 try clear p2
 obtain ⟨x8_2, x21_2, rfl, rfl, HA, HK2, HO_5, HO_6, HO_19, HB⟩ := hrel
 obtain _ | k2 := gk
 ·exact absurd HA.out (by simp [impl_cycleFrom.l1])
 have H := HA.out
 clear HA
 simp only [impl_cycleFrom.l1] at H
 by_cases c10 : x21_2 < (t421.length : Int)
 ·rw [if_pos c10] at H
  have c10b0 : decide (x21_2 < (t421.length : Int)) = true := decide_eq_true c10
  clear c10
  by_cases c11 : 0 ≤ x21_2
  rotate_left
  ·rw [if_neg c11] at H
   exact absurd H (by simp)
  rw [if_pos c11] at H
  have c11b0 : decide (0 ≤ x21_2) = true := decide_eq_true c11
  clear c11
  by_cases c12 : x21_2 < (t421.length : Int)
  rotate_left
  ·rw [if_neg c12] at H
   exact absurd H (by simp)
  rw [if_pos c12] at H
  have c12b0 : decide (x21_2 < (t421.length : Int)) = true := decide_eq_true c12
  clear c12
  by_cases c13 : (rd t421 x21_2) ≥ a1
  rotate_left
  ·rw [if_neg c13] at H
   have c13b0 : decide (a1 ≤ (rd t421 x21_2)) = false := decide_eq_false c13
   clear c13
   have H' := Aside0.mk H
   clear H
   have p424 : 0 ≤ (x21_2 : Int) := of_decide_eq_true dg_
   have q424 : x21_2 < (t421.length : Int) := of_decide_eq_true dg_
   obtain ⟨ad424, e424, hx424_0⟩ := Kd.at_int (Kd.R_reads' HO_19.out).2.2 x21_2 p424 q424
   cases e424
   replace p424 := eq_true p424
   replace q424 := eq_true q424
   go_wp2
   repeat (go_quiet (fail); try go_wp2)
   go_roundg k2
   case measure => have := HK1.out; have := HK2.out; omega
   case rel => exact ⟨(x8_2), (wrap64 (x21_2 + 1)), ef_, ef_, H', ⟨by have := HK1.out; have := HK2.out; omega⟩, ⟨ra_ HO_5.out⟩, ⟨ra_ HO_6.out⟩, ⟨ra_ HO_19.out⟩, ⟨bb_ HB.out⟩⟩
  rw [if_pos c13] at H
  have c13b0 : decide (a1 ≤ (rd t421 x21_2)) = true := decide_eq_true c13
  clear c13
  by_cases c14 : 0 ≤ (rd t421 x21_2)
  rotate_left
  ·rw [if_neg c14] at H
   exact absurd H (by simp)
  rw [if_pos c14] at H
  have c14b0 : decide (0 ≤ (rd t421 x21_2)) = true := decide_eq_true c14
  clear c14
  by_cases c15 : (rd t421 x21_2) < (t415.length : Int)
  rotate_left
  ·rw [if_neg c15] at H
   exact absurd H (by simp)
  rw [if_pos c15] at H
  have c15b0 : decide ((rd t421 x21_2) < (t415.length : Int)) = true := decide_eq_true c15
  clear c15
  by_cases c16 : (rd t415 (rd t421 x21_2)) ≥ 0
  rotate_left
  ·rw [if_neg c16] at H
   have c16b0 : decide (0 ≤ (rd t415 (rd t421 x21_2))) = false := decide_eq_false c16
   clear c16
   have H' := Aside0.mk H
   clear H
   have p424 : 0 ≤ (x21_2 : Int) := of_decide_eq_true dg_
   have q424 : x21_2 < (t421.length : Int) := of_decide_eq_true dg_
   obtain ⟨ad424, e424, hx424_0⟩ := Kd.at_int (Kd.R_reads' HO_19.out).2.2 x21_2 p424 q424
   cases e424
   replace p424 := eq_true p424
   replace q424 := eq_true q424
   obtain ⟨Ao24, co24, eo24⟩ := Kd.R_slice HO_5.out
   subst eo24
   have p425 : 0 ≤ ((rd t421 x21_2) : Int) := of_decide_eq_true dg_
   have q425 : (rd t421 x21_2) < (t415.length : Int) := of_decide_eq_true dg_
   obtain ⟨ad425, e425, hx425_0⟩ := Kd.at_int (Kd.R_reads' HO_5.out).2.2 (rd t421 x21_2) p425 q425
   cases e425
   replace p425 := eq_true p425
   replace q425 := eq_true q425
   go_wp2
   repeat (go_quiet (fail); try go_wp2)
   go_roundg k2
   case measure => have := HK1.out; have := HK2.out; omega
   case rel => exact ⟨(x8_2), (wrap64 (x21_2 + 1)), ef_, ef_, H', ⟨by have := HK1.out; have := HK2.out; omega⟩, ⟨ra_ HO_5.out⟩, ⟨ra_ HO_6.out⟩, ⟨ra_ HO_19.out⟩, ⟨bb_ HB.out⟩⟩
  rw [if_pos c16] at H
  have c16b0 : decide (0 ≤ (rd t415 (rd t421 x21_2))) = true := decide_eq_true c16
  clear c16
  by_cases c17 : x8_2 < 0
  ·rw [if_pos c17] at H
   have c17b0 : decide (x8_2 < 0) = true := decide_eq_true c17
   clear c17
   have H' := Aside0.mk H
   clear H
   have p424 : 0 ≤ (x21_2 : Int) := of_decide_eq_true dg_
   have q424 : x21_2 < (t421.length : Int) := of_decide_eq_true dg_
   obtain ⟨ad424, e424, hx424_0⟩ := Kd.at_int (Kd.R_reads' HO_19.out).2.2 x21_2 p424 q424
   cases e424
   replace p424 := eq_true p424
   replace q424 := eq_true q424
   obtain ⟨Ao18, co18, eo18⟩ := Kd.R_slice HO_5.out
   subst eo18
   have p425 : 0 ≤ ((rd t421 x21_2) : Int) := of_decide_eq_true dg_
   have q425 : (rd t421 x21_2) < (t415.length : Int) := of_decide_eq_true dg_
   obtain ⟨ad425, e425, hx425_0⟩ := Kd.at_int (Kd.R_reads' HO_5.out).2.2 (rd t421 x21_2) p425 q425
   cases e425
   replace p425 := eq_true p425
   replace q425 := eq_true q425
   go_wp2
   repeat (go_quiet (fail); try go_wp2)
   go_roundg k2
   case measure => have := HK1.out; have := HK2.out; omega
   case rel => exact ⟨(rd t421 x21_2), (wrap64 (x21_2 + 1)), ef_, ef_, H', ⟨by have := HK1.out; have := HK2.out; omega⟩, ⟨ra_ HO_5.out⟩, ⟨ra_ HO_6.out⟩, ⟨ra_ HO_19.out⟩, ⟨bb_ HB.out⟩⟩
  rw [if_neg c17] at H
  have c17b0 : decide (x8_2 < 0) = false := decide_eq_false c17
  clear c17
  by_cases c19 : 0 ≤ x8_2
  rotate_left
  ·rw [if_neg c19] at H
   exact absurd H (by simp)
  rw [if_pos c19] at H
  have c19b0 : decide (0 ≤ x8_2) = true := decide_eq_true c19
  clear c19
  by_cases c20 : x8_2 < (t415.length : Int)
  rotate_left
  ·rw [if_neg c20] at H
   exact absurd H (by simp)
  rw [if_pos c20] at H
  have c20b0 : decide (x8_2 < (t415.length : Int)) = true := decide_eq_true c20
  clear c20
  by_cases c21 : (rd t415 (rd t421 x21_2)) < (rd t415 x8_2)
  rotate_left
  ·rw [if_neg c21] at H
   have c21b0 : decide ((rd t415 (rd t421 x21_2)) < (rd t415 x8_2)) = false := decide_eq_false c21
   clear c21
   have H' := Aside0.mk H
   clear H
   have p424 : 0 ≤ (x21_2 : Int) := of_decide_eq_true dg_
   have q424 : x21_2 < (t421.length : Int) := of_decide_eq_true dg_
   obtain ⟨ad424, e424, hx424_0⟩ := Kd.at_int (Kd.R_reads' HO_19.out).2.2 x21_2 p424 q424
   cases e424
   replace p424 := eq_true p424
   replace q424 := eq_true q424
   obtain ⟨Ao23, co23, eo23⟩ := Kd.R_slice HO_5.out
   subst eo23
   have p425 : 0 ≤ ((rd t421 x21_2) : Int) := of_decide_eq_true dg_
   have q425 : (rd t421 x21_2) < (t415.length : Int) := of_decide_eq_true dg_
   obtain ⟨ad425, e425, hx425_0⟩ := Kd.at_int (Kd.R_reads' HO_5.out).2.2 (rd t421 x21_2) p425 q425
   cases e425
   replace p425 := eq_true p425
   replace q425 := eq_true q425
   have p426 : 0 ≤ ((rd t421 x21_2) : Int) := of_decide_eq_true dg_
   have q426 : (rd t421 x21_2) < (t415.length : Int) := of_decide_eq_true dg_
   obtain ⟨ad426, e426, hx426_0⟩ := Kd.at_int (Kd.R_reads' HO_5.out).2.2 (rd t421 x21_2) p426 q426
   obtain rfl : ad425 = ad426 := (by injection e426)
   replace p426 := eq_true p426
   replace q426 := eq_true q426
   have p427 : 0 ≤ (x8_2 : Int) := of_decide_eq_true dg_
   have q427 : x8_2 < (t415.length : Int) := of_decide_eq_true dg_
   obtain ⟨ad427, e427, hx427_0⟩ := Kd.at_int (Kd.R_reads' HO_5.out).2.2 x8_2 p427 q427
   obtain rfl : ad425 = ad427 := (by injection e427)
   replace p427 := eq_true p427
   replace q427 := eq_true q427
   go_wp2
   repeat (go_quiet (fail); try go_wp2)
   go_roundg k2
   case measure => have := HK1.out; have := HK2.out; omega
   case rel => exact ⟨(x8_2), (wrap64 (x21_2 + 1)), ef_, ef_, H', ⟨by have := HK1.out; have := HK2.out; omega⟩, ⟨ra_ HO_5.out⟩, ⟨ra_ HO_6.out⟩, ⟨ra_ HO_19.out⟩, ⟨bb_ HB.out⟩⟩
  rw [if_pos c21] at H
  have c21b0 : decide ((rd t415 (rd t421 x21_2)) < (rd t415 x8_2)) = true := decide_eq_true c21
  clear c21
  have H' := Aside0.mk H
  clear H
  have p424 : 0 ≤ (x21_2 : Int) := of_decide_eq_true dg_
  have q424 : x21_2 < (t421.length : Int) := of_decide_eq_true dg_
  obtain ⟨ad424, e424, hx424_0⟩ := Kd.at_int (Kd.R_reads' HO_19.out).2.2 x21_2 p424 q424
  cases e424
  replace p424 := eq_true p424
  replace q424 := eq_true q424
  obtain ⟨Ao22, co22, eo22⟩ := Kd.R_slice HO_5.out
  subst eo22
  have p425 : 0 ≤ ((rd t421 x21_2) : Int) := of_decide_eq_true dg_
  have q425 : (rd t421 x21_2) < (t415.length : Int) := of_decide_eq_true dg_
  obtain ⟨ad425, e425, hx425_0⟩ := Kd.at_int (Kd.R_reads' HO_5.out).2.2 (rd t421 x21_2) p425 q425
  cases e425
  replace p425 := eq_true p425
  replace q425 := eq_true q425
  have p426 : 0 ≤ ((rd t421 x21_2) : Int) := of_decide_eq_true dg_
  have q426 : (rd t421 x21_2) < (t415.length : Int) := of_decide_eq_true dg_
  obtain ⟨ad426, e426, hx426_0⟩ := Kd.at_int (Kd.R_reads' HO_5.out).2.2 (rd t421 x21_2) p426 q426
  obtain rfl : ad425 = ad426 := (by injection e426)
  replace p426 := eq_true p426
  replace q426 := eq_true q426
  have p427 : 0 ≤ (x8_2 : Int) := of_decide_eq_true dg_
  have q427 : x8_2 < (t415.length : Int) := of_decide_eq_true dg_
  obtain ⟨ad427, e427, hx427_0⟩ := Kd.at_int (Kd.R_reads' HO_5.out).2.2 x8_2 p427 q427
  obtain rfl : ad425 = ad427 := (by injection e427)
  replace p427 := eq_true p427
  replace q427 := eq_true q427
  go_wp2
  repeat (go_quiet (fail); try go_wp2)
  go_roundg k2
  case measure => have := HK1.out; have := HK2.out; omega
  case rel => exact ⟨(rd t421 x21_2), (wrap64 (x21_2 + 1)), ef_, ef_, H', ⟨by have := HK1.out; have := HK2.out; omega⟩, ⟨ra_ HO_5.out⟩, ⟨ra_ HO_6.out⟩, ⟨ra_ HO_19.out⟩, ⟨bb_ HB.out⟩⟩
 rw [if_neg c10] at H
 have c10b0 : decide (x21_2 < (t421.length : Int)) = false := decide_eq_false c10
 clear c10
 by_cases c25 : x8_2 < 0
 ·rw [if_pos c25] at H
  have c25b0 : decide (x8_2 < 0) = true := decide_eq_true c25
  clear c25
  obtain rfl := Option.some.inj H
  go_wp2
  repeat (go_quiet (fail); try go_wp2)
  go_ret
  exact ⟨_, fin_, by first | exact Kd.R_nil _ _ _ _ _ | exact Kd.N_nil _ _ _ _ _ | exact Kd.V_nil _ _ _ _ _ | exact Kd.Q_nil _ _ _ _ _ | exact Kd.S_nil _ _ _ _ _, bb_ HB.out, by first | rfl | (intro e_; first | rfl | (exfalso; simp [Ny418.out] at e_; done) | (exfalso; simp [Ny428.out] at e_; done))⟩
 rw [if_neg c25] at H
 have c25b0 : decide (x8_2 < 0) = false := decide_eq_false c25
 clear c25
 by_cases c26 : x6_1.length < 17592186044416
 rotate_left
 ·rw [if_neg c26] at H
  exact absurd H (by simp)
 rw [if_pos c26] at H
 have LMc26 := Aside0.mk c26
 clear c26
 obtain ⟨y428, Ny428, H⟩ := bo_ H
 by_cases c27 : x8_2 = a1
 ·rw [if_pos c27] at H
  have c27b0 : (x8_2 == a1) = true := beq_iff_eq.mpr c27
  have c27b1 : (x8_2 != a1) = false := bne_eq_false_iff_eq.mpr c27
  clear c27
  obtain rfl := Option.some.inj H
  go_wp2_with (first | ((with_reducible refine gate_builtin (b := .append) (xs := #[.tmp 54, .tmp 56]) rfl ?_); at_builtin; refine Kd.R_append (Kd.int .i64) (w0 := w) w.heap.size rfl (.tmp 54) (.tmp 56) 24 3 (.int .i64 0) 8 rfl Tryz.underlying24 info3 rfl (by decide) (by omega) u6 x6_1 x7_1 [.int .i64 x7_1] (fun k_ => some k_ ≠ (v416 : Value).ownBlock ∧ some k_ ≠ (.slice Ao9 t421.length co9 : Value).ownBlock) (fun _ => False) rfl rfl ?aP (fun _ hk => hk.elim) ?aF ?aO ?aB ?aS ?aL ?_; (case aP => exact rfl); (case aB => exact (by repeat (first | (with_reducible first | exact HB.out | apply below_alloc | apply pw_below_drewN | apply below_drew1) | exact HB.out))); (case aF => exact (fun k_ hk => ⟨Kd.fresh' (rl_ HO_5.out) k_ hk, Kd.fresh' (rl_ HO_19.out) k_ hk⟩)); (case aO => exact (ra_ HO_6.out)); (case aS => exact (bz_ HB.out)); (case aL => have := LMc26.out; omega); intro v429 w28 ho hb hg hat; rw [← Ny428.out] at ho; have n0_ := Aside0.mk (Kd.R_after (ok := (fun k_ => some k_ ≠ (.slice Ao9 t421.length co9 : Value).ownBlock)) (by (with_reducible repeat (first | apply Kd.R_alloc | apply Kd.R_drewN | apply Kd.R_drew)); exact Kd.R_mono HO_5.out (fun _ hk => ⟨hk.2, hk.1⟩)) hg hat); have n1_ := Aside0.mk (Kd.R_after (ok := (fun k_ => some k_ ≠ (v416 : Value).ownBlock)) (ra_ HO_19.out) hg hat); have n2_ := Aside0.mk (hb); have n3_ := Aside0.mk (ho); clear HO_5; clear HO_19; clear HB; clear HO_6; have HO_5 := n0_; have HO_19 := n1_; have HB := n2_; have HO430 := n3_; clear n0_ n1_ n2_ n3_; clear ho hb hg hat))
  repeat (go_quiet (first | ((with_reducible refine gate_builtin (b := .append) (xs := #[.tmp 54, .tmp 56]) rfl ?_); at_builtin; refine Kd.R_append (Kd.int .i64) (w0 := w) w.heap.size rfl (.tmp 54) (.tmp 56) 24 3 (.int .i64 0) 8 rfl Tryz.underlying24 info3 rfl (by decide) (by omega) u6 x6_1 x7_1 [.int .i64 x7_1] (fun k_ => some k_ ≠ (v416 : Value).ownBlock ∧ some k_ ≠ (.slice Ao9 t421.length co9 : Value).ownBlock) (fun _ => False) rfl rfl ?aP (fun _ hk => hk.elim) ?aF ?aO ?aB ?aS ?aL ?_; (case aP => exact rfl); (case aB => exact (by repeat (first | (with_reducible first | exact HB.out | apply below_alloc | apply pw_below_drewN | apply below_drew1) | exact HB.out))); (case aF => exact (fun k_ hk => ⟨Kd.fresh' (rl_ HO_5.out) k_ hk, Kd.fresh' (rl_ HO_19.out) k_ hk⟩)); (case aO => exact (ra_ HO_6.out)); (case aS => exact (bz_ HB.out)); (case aL => have := LMc26.out; omega); intro v429 w28 ho hb hg hat; rw [← Ny428.out] at ho; have n0_ := Aside0.mk (Kd.R_after (ok := (fun k_ => some k_ ≠ (.slice Ao9 t421.length co9 : Value).ownBlock)) (by (with_reducible repeat (first | apply Kd.R_alloc | apply Kd.R_drewN | apply Kd.R_drew)); exact Kd.R_mono HO_5.out (fun _ hk => ⟨hk.2, hk.1⟩)) hg hat); have n1_ := Aside0.mk (Kd.R_after (ok := (fun k_ => some k_ ≠ (v416 : Value).ownBlock)) (ra_ HO_19.out) hg hat); have n2_ := Aside0.mk (hb); have n3_ := Aside0.mk (ho); clear HO_5; clear HO_19; clear HB; clear HO_6; have HO_5 := n0_; have HO_19 := n1_; have HB := n2_; have HO430 := n3_; clear n0_ n1_ n2_ n3_; clear ho hb hg hat)); try go_wp2_with (first | ((with_reducible refine gate_builtin (b := .append) (xs := #[.tmp 54, .tmp 56]) rfl ?_); at_builtin; refine Kd.R_append (Kd.int .i64) (w0 := w) w.heap.size rfl (.tmp 54) (.tmp 56) 24 3 (.int .i64 0) 8 rfl Tryz.underlying24 info3 rfl (by decide) (by omega) u6 x6_1 x7_1 [.int .i64 x7_1] (fun k_ => some k_ ≠ (v416 : Value).ownBlock ∧ some k_ ≠ (.slice Ao9 t421.length co9 : Value).ownBlock) (fun _ => False) rfl rfl ?aP (fun _ hk => hk.elim) ?aF ?aO ?aB ?aS ?aL ?_; (case aP => exact rfl); (case aB => exact (by repeat (first | (with_reducible first | exact HB.out | apply below_alloc | apply pw_below_drewN | apply below_drew1) | exact HB.out))); (case aF => exact (fun k_ hk => ⟨Kd.fresh' (rl_ HO_5.out) k_ hk, Kd.fresh' (rl_ HO_19.out) k_ hk⟩)); (case aO => exact (ra_ HO_6.out)); (case aS => exact (bz_ HB.out)); (case aL => have := LMc26.out; omega); intro v429 w28 ho hb hg hat; rw [← Ny428.out] at ho; have n0_ := Aside0.mk (Kd.R_after (ok := (fun k_ => some k_ ≠ (.slice Ao9 t421.length co9 : Value).ownBlock)) (by (with_reducible repeat (first | apply Kd.R_alloc | apply Kd.R_drewN | apply Kd.R_drew)); exact Kd.R_mono HO_5.out (fun _ hk => ⟨hk.2, hk.1⟩)) hg hat); have n1_ := Aside0.mk (Kd.R_after (ok := (fun k_ => some k_ ≠ (v416 : Value).ownBlock)) (ra_ HO_19.out) hg hat); have n2_ := Aside0.mk (hb); have n3_ := Aside0.mk (ho); clear HO_5; clear HO_19; clear HB; clear HO_6; have HO_5 := n0_; have HO_19 := n1_; have HB := n2_; have HO430 := n3_; clear n0_ n1_ n2_ n3_; clear ho hb hg hat)))
  go_ret
  exact ⟨_, fin_, by (with_reducible repeat (first | apply Kd.R_alloc | apply Kd.R_drewN | apply Kd.R_drew)); exact Kd.R_mono HO430.out (fun _ hk => trivial), bb_ HB.out, by first | rfl | (intro e_; first | rfl | (exfalso; simp [Ny418.out] at e_; done) | (exfalso; simp [Ny428.out] at e_; done))⟩
 rw [if_neg c27] at H
 have c27b0 : (x8_2 == a1) = false := beq_eq_false_iff_ne.mpr c27
 have c27b1 : (x8_2 != a1) = true := bne_iff_ne.mpr c27
 have H' := Aside0.mk H
 clear H
 go_wp2_with (first | ((with_reducible refine gate_builtin (b := .append) (xs := #[.tmp 54, .tmp 56]) rfl ?_); at_builtin; refine Kd.R_append (Kd.int .i64) (w0 := w) w.heap.size rfl (.tmp 54) (.tmp 56) 24 3 (.int .i64 0) 8 rfl Tryz.underlying24 info3 rfl (by decide) (by omega) u6 x6_1 x7_1 [.int .i64 x7_1] (fun k_ => some k_ ≠ (v416 : Value).ownBlock ∧ some k_ ≠ (.slice Ao9 t421.length co9 : Value).ownBlock) (fun _ => False) rfl rfl ?aP (fun _ hk => hk.elim) ?aF ?aO ?aB ?aS ?aL ?_; (case aP => exact rfl); (case aB => exact (by repeat (first | (with_reducible first | exact HB.out | apply below_alloc | apply pw_below_drewN | apply below_drew1) | exact HB.out))); (case aF => exact (fun k_ hk => ⟨Kd.fresh' (rl_ HO_5.out) k_ hk, Kd.fresh' (rl_ HO_19.out) k_ hk⟩)); (case aO => exact (ra_ HO_6.out)); (case aS => exact (bz_ HB.out)); (case aL => have := LMc26.out; omega); intro v429 w29 ho hb hg hat; rw [← Ny428.out] at ho; have n0_ := Aside0.mk (Kd.R_after (ok := (fun k_ => some k_ ≠ (.slice Ao9 t421.length co9 : Value).ownBlock)) (by (with_reducible repeat (first | apply Kd.R_alloc | apply Kd.R_drewN | apply Kd.R_drew)); exact Kd.R_mono HO_5.out (fun _ hk => ⟨hk.2, hk.1⟩)) hg hat); have n1_ := Aside0.mk (Kd.R_after (ok := (fun k_ => some k_ ≠ (v416 : Value).ownBlock)) (ra_ HO_19.out) hg hat); have n2_ := Aside0.mk (hb); have n3_ := Aside0.mk (ho); clear HO_5; clear HO_19; clear HB; clear HO_6; have HO_5 := n0_; have HO_19 := n1_; have HB := n2_; have HO430 := n3_; clear n0_ n1_ n2_ n3_; clear ho hb hg hat))
 repeat (go_quiet (first | ((with_reducible refine gate_builtin (b := .append) (xs := #[.tmp 54, .tmp 56]) rfl ?_); at_builtin; refine Kd.R_append (Kd.int .i64) (w0 := w) w.heap.size rfl (.tmp 54) (.tmp 56) 24 3 (.int .i64 0) 8 rfl Tryz.underlying24 info3 rfl (by decide) (by omega) u6 x6_1 x7_1 [.int .i64 x7_1] (fun k_ => some k_ ≠ (v416 : Value).ownBlock ∧ some k_ ≠ (.slice Ao9 t421.length co9 : Value).ownBlock) (fun _ => False) rfl rfl ?aP (fun _ hk => hk.elim) ?aF ?aO ?aB ?aS ?aL ?_; (case aP => exact rfl); (case aB => exact (by repeat (first | (with_reducible first | exact HB.out | apply below_alloc | apply pw_below_drewN | apply below_drew1) | exact HB.out))); (case aF => exact (fun k_ hk => ⟨Kd.fresh' (rl_ HO_5.out) k_ hk, Kd.fresh' (rl_ HO_19.out) k_ hk⟩)); (case aO => exact (ra_ HO_6.out)); (case aS => exact (bz_ HB.out)); (case aL => have := LMc26.out; omega); intro v429 w29 ho hb hg hat; rw [← Ny428.out] at ho; have n0_ := Aside0.mk (Kd.R_after (ok := (fun k_ => some k_ ≠ (.slice Ao9 t421.length co9 : Value).ownBlock)) (by (with_reducible repeat (first | apply Kd.R_alloc | apply Kd.R_drewN | apply Kd.R_drew)); exact Kd.R_mono HO_5.out (fun _ hk => ⟨hk.2, hk.1⟩)) hg hat); have n1_ := Aside0.mk (Kd.R_after (ok := (fun k_ => some k_ ≠ (v416 : Value).ownBlock)) (ra_ HO_19.out) hg hat); have n2_ := Aside0.mk (hb); have n3_ := Aside0.mk (ho); clear HO_5; clear HO_19; clear HB; clear HO_6; have HO_5 := n0_; have HO_19 := n1_; have HB := n2_; have HO430 := n3_; clear n0_ n1_ n2_ n3_; clear ho hb hg hat)); try go_wp2_with (first | ((with_reducible refine gate_builtin (b := .append) (xs := #[.tmp 54, .tmp 56]) rfl ?_); at_builtin; refine Kd.R_append (Kd.int .i64) (w0 := w) w.heap.size rfl (.tmp 54) (.tmp 56) 24 3 (.int .i64 0) 8 rfl Tryz.underlying24 info3 rfl (by decide) (by omega) u6 x6_1 x7_1 [.int .i64 x7_1] (fun k_ => some k_ ≠ (v416 : Value).ownBlock ∧ some k_ ≠ (.slice Ao9 t421.length co9 : Value).ownBlock) (fun _ => False) rfl rfl ?aP (fun _ hk => hk.elim) ?aF ?aO ?aB ?aS ?aL ?_; (case aP => exact rfl); (case aB => exact (by repeat (first | (with_reducible first | exact HB.out | apply below_alloc | apply pw_below_drewN | apply below_drew1) | exact HB.out))); (case aF => exact (fun k_ hk => ⟨Kd.fresh' (rl_ HO_5.out) k_ hk, Kd.fresh' (rl_ HO_19.out) k_ hk⟩)); (case aO => exact (ra_ HO_6.out)); (case aS => exact (bz_ HB.out)); (case aL => have := LMc26.out; omega); intro v429 w29 ho hb hg hat; rw [← Ny428.out] at ho; have n0_ := Aside0.mk (Kd.R_after (ok := (fun k_ => some k_ ≠ (.slice Ao9 t421.length co9 : Value).ownBlock)) (by (with_reducible repeat (first | apply Kd.R_alloc | apply Kd.R_drewN | apply Kd.R_drew)); exact Kd.R_mono HO_5.out (fun _ hk => ⟨hk.2, hk.1⟩)) hg hat); have n1_ := Aside0.mk (Kd.R_after (ok := (fun k_ => some k_ ≠ (v416 : Value).ownBlock)) (ra_ HO_19.out) hg hat); have n2_ := Aside0.mk (hb); have n3_ := Aside0.mk (ho); clear HO_5; clear HO_19; clear HB; clear HO_6; have HO_5 := n0_; have HO_19 := n1_; have HB := n2_; have HO430 := n3_; clear n0_ n1_ n2_ n3_; clear ho hb hg hat)))
 go_roundg k2
 case measure => have := HK1.out; have := HK2.out; omega
 case rel => exact ⟨(y428), (x8_2), ef_, H', ⟨by have := HK1.out; have := HK2.out; omega⟩, ⟨by (with_reducible repeat (first | apply Kd.R_alloc | apply Kd.R_drewN | apply Kd.R_drew)); exact Kd.R_mono HO_5.out (fun _ hk => hk.2)⟩, ⟨by (with_reducible repeat (first | apply Kd.R_alloc | apply Kd.R_drewN | apply Kd.R_drew)); exact Kd.R_mono HO430.out (fun _ hk => hk.1)⟩, ⟨bb_ HB.out⟩⟩

/-! ### impl_ShortestCycle: function 65 -/
def impl_ShortestCycle.l0 : Nat → List (S98) → List Int → Int → Option (List Int)
 | 0, _, _, _ => none
 | k + 1, l, out, x => if x < 128 then ((impl_cycleFrom.f k l x).bind fun own => (if own = [] then (impl_ShortestCycle.l0 k l out (wrap64 (x + 1))) else (if out = [] then (impl_ShortestCycle.l0 k l own (wrap64 (x + 1))) else (if (own.length : Int) < (out.length : Int) then (impl_ShortestCycle.l0 k l own (wrap64 (x + 1))) else (impl_ShortestCycle.l0 k l out (wrap64 (x + 1))))))) else (some out)
def impl_ShortestCycle.f (k : Nat) (l : List (S98)) : Option (List Int) := (impl_DependsOk.f k l).bind fun b => (if b = true then (impl_ShortestCycle.l0 k l [] 0) else (some []))
theorem impl_ShortestCycle.mono_l : ∀ k l out x, LeO (impl_ShortestCycle.l0 k l out x) (impl_ShortestCycle.l0 (k + 1) l out x)
 | 0, _, _, _ => fun r h => by simp [impl_ShortestCycle.l0] at h
 | k + 1, l, out, x => by
  have ih := impl_ShortestCycle.mono_l k
  unfold impl_ShortestCycle.l0
  exact LeO.ite (LeO.bind (impl_cycleFrom.mono _ _ _) (fun _ => LeO.ite (ih _ _ _) (LeO.ite (ih _ _ _) (LeO.ite (ih _ _ _) (ih _ _ _))))) (LeO.refl _)
theorem impl_ShortestCycle.mono (l : List (S98)) : ∀ k, LeO (impl_ShortestCycle.f k l) (impl_ShortestCycle.f (k + 1) l) := by
 intro k
 unfold impl_ShortestCycle.f
 exact LeO.bind (impl_DependsOk.mono _ _) (fun _ => LeO.ite (impl_ShortestCycle.mono_l _ _ _ _) (LeO.refl _))
theorem impl_ShortestCycle.nn {w : World} {base : Nat} {ok : Nat → Prop} {v : Value} {xs : List Int} (h : Kd.R (Kd.int .i64) 3 w base ok v xs) (hn : xs ≠ []) : ∃ (ad : Addr) (c : Nat), v = .slice (some ad) xs.length c := Kd.R_slice1 h (by cases xs with | nil => exact absurd rfl hn | cons x xs => simp)
theorem impl_ShortestCycle.e0 {P : Prop} (h : P := by
 go_wp2_with (first | (go_at_call 96; (with_reducible refine (impl_cycleFrom.callsN k1 A0 c0 l0 x [] _ ?side1 HC0.out A3.out).mono ?_); (case side1 => exact cb_ HR0.out HB.out); rintro e w_0 ⟨v5, rfl, ho, hb, hn⟩; obtain rfl := hn rfl; have HO5 := Aside0.mk (Kd.R_lower ho (bz_ HB.out)); replace HO := Aside0.mk (Kd.R_below HO.out hb); replace HB := hs_ HB hb; clear ho hb hn) | (go_at_call 96; (with_reducible refine (impl_cycleFrom.callsN k1 A0 c0 l0 x own _ ?side1 HC0.out A3.out).mono ?_); (case side1 => exact cb_ HR0.out HB.out); rintro e w_0 ⟨v5, rfl, ho, hb, hn⟩; obtain ⟨ad5, c5, rfl⟩ := impl_ShortestCycle.nn ho hown; have HO5 := Aside0.mk (Kd.R_lower ho (bz_ HB.out)); replace HO := Aside0.mk (Kd.R_below HO.out hb); replace HB := hs_ HB hb; clear ho hb hn))
 go_roundg k1
 case measure => omega
 case rel => exact ⟨out, wrap64 (x + 1), ef_, H', ⟨by have := HK1.out; omega⟩, HO, ⟨fun e_ => absurd e_ hout⟩, ⟨bb_ HB.out⟩⟩) : P := h
theorem impl_ShortestCycle.e1 {P : Prop} (h : P := by
 go_wp2_with (first | (go_at_call 96; (with_reducible refine (impl_cycleFrom.callsN k1 A0 c0 l0 x own _ ?side1 HC0.out A3.out).mono ?_); (case side1 => exact cb_ HR0.out HB.out); rintro e w_0 ⟨v5, rfl, ho, hb, hn⟩; obtain ⟨ad5, c5, rfl⟩ := impl_ShortestCycle.nn ho hown; have HO5 := Aside0.mk (Kd.R_lower ho (bz_ HB.out)); replace HO := Aside0.mk (Kd.R_below HO.out hb); replace HB := hs_ HB hb; clear ho hb hn))
 go_roundg k1
 case measure => omega
 case rel => exact ⟨own, wrap64 (x + 1), ef_, H', ⟨by have := HK1.out; omega⟩, HO5, ⟨fun e_ => absurd e_ hown⟩, ⟨bb_ HB.out⟩⟩) : P := h
set_option maxHeartbeats 4000000 in
theorem impl_ShortestCycle.calls (k : Nat) (A0 : Option Addr) (c0 : Nat) (l0 : List (S98)) (r : List Int) (w : World) (hr0 : Kd.C k98 w A0 l0.length l0) (hc0 : l0.length ≤ c0) (h : impl_ShortestCycle.f k l0 = some r) :
  Calls Tryz.prog 65 #[.slice A0 l0.length c0] w fun e w' => ∃ v0_ : Value, e = .returned (v0_) ∧ Kd.R (Kd.int .i64) 3 w' w.heap.size (fun _ => True) v0_ r ∧ Below w.heap.size w w' := by
 have HR0 := Aside0.mk hr0
 have HC0 := Aside0.mk hc0
 clear hr0 hc0
 have HB := Aside0.mk (Below.refl w.heap.size w)
 have hEQ := eq_nil_slice
 have hNE := ne_nil_slice
 unfold impl_ShortestCycle.f at h
 obtain ⟨b1, A10, h⟩ := Option.bind_eq_some_iff.1 h
 have A1 := Aside0.mk A10
 clear A10
 cases b1 with
 | false =>
  have h1 : some ([] : List Int) = some r := h
  obtain rfl := Option.some.inj h1
  clear h h1
  go_enter Tryz.func65, Tryz.ntmps65
  go_wp2_with (first | (go_at_call 74; (with_reducible refine (impl_DependsOk.calls k A0 c0 l0 _ _ ?side1 HC0.out A1.out).mono ?_); (case side1 => exact HR0.out); rintro e w1 ⟨rfl, hb⟩; replace HB := hs_ HB hb; (try clear hb)))
  go_ret
  exact ⟨_, fin_, Kd.R_nil _ _ _ _ _, bb_ HB.out⟩
 | true =>
  rw [if_pos rfl] at h
  have A2_ := Aside0.mk h
  clear h
  go_enter Tryz.func65, Tryz.ntmps65
  go_wp2_with (first | (go_at_call 74; (with_reducible refine (impl_DependsOk.calls k A0 c0 l0 _ _ ?side1 HC0.out A1.out).mono ?_); (case side1 => exact HR0.out); rintro e w1 ⟨rfl, hb⟩; replace HB := hs_ HB hb; (try clear hb)))
  go_loopg [3, 9] k (fun kq v3 v9 w' => ∃ (out : List Int) (x : Int), v9 = .int .i64 x ∧ Aside0 (impl_ShortestCycle.l0 kq l0 out x = some r) ∧ Aside0 (kq ≤ k) ∧ Aside0 (Kd.R (Kd.int .i64) 3 w' w.heap.size (fun _ => True) v3 out) ∧ Aside0 (out = [] → v3 = .slice none 0 0) ∧ Aside0 (Below w.heap.size w w'))
  case atStart => exact ⟨[], 0, ef_, A2_, ⟨Nat.le_refl _⟩, ⟨Kd.R_nil _ _ _ _ _⟩, ⟨fun _ => rfl⟩, ⟨bb_ HB.out⟩⟩
  clear A1 A2_ HB
  obtain ⟨out, x, rfl, HA, HK1, HO, HN, HB⟩ := hrel
  obtain _ | k1 := gk
  ·exact absurd HA.out (by simp [impl_ShortestCycle.l0])
  have H := HA.out
  clear HA
  simp only [impl_ShortestCycle.l0] at H
  by_cases c1 : x < 128
  rotate_left
  ·rw [if_neg c1] at H
   have c1b : decide (x < 128) = false := decide_eq_false c1
   clear c1
   obtain rfl := Option.some.inj H
   go_wp2
   go_ret
   exact ⟨_, fin_, HO.out, bb_ HB.out⟩
  rw [if_pos c1] at H
  have c1b : decide (x < 128) = true := decide_eq_true c1
  clear c1
  obtain ⟨own, A30, H⟩ := Option.bind_eq_some_iff.1 H
  have A3 := Aside0.mk A30
  clear A30
  have hout0 : (out = [] ∧ u3 = .slice none 0 0) ∨ (out ≠ [] ∧ ∃ (ad : Addr) (c : Nat), u3 = .slice (some ad) out.length c) := by
   by_cases h : out = []
   ·exact Or.inl ⟨h, HN.out h⟩
   exact Or.inr ⟨h, impl_ShortestCycle.nn HO.out h⟩
  clear HN
  by_cases hown : own = []
  ·subst hown
   rw [if_pos rfl] at H
   have H' := Aside0.mk H
   clear H
   rcases hout0 with ⟨rfl, rfl⟩ | ⟨hout, ad3, c3, rfl⟩
   ·go_wp2_with (first | (go_at_call 96; (with_reducible refine (impl_cycleFrom.callsN k1 A0 c0 l0 x [] _ ?side1 HC0.out A3.out).mono ?_); (case side1 => exact cb_ HR0.out HB.out); rintro e w2 ⟨v5, rfl, ho, hb, hn⟩; obtain rfl := hn rfl; have HO5 := Aside0.mk (Kd.R_lower ho (bz_ HB.out)); replace HO := Aside0.mk (Kd.R_below HO.out hb); replace HB := hs_ HB hb; clear ho hb hn))
    go_roundg k1
    case measure => omega
    case rel => exact ⟨[], wrap64 (x + 1), ef_, H', ⟨by have := HK1.out; omega⟩, HO, ⟨fun _ => rfl⟩, ⟨bb_ HB.out⟩⟩
   ·exact impl_ShortestCycle.e0
  rw [if_neg hown] at H
  rcases hout0 with ⟨rfl, rfl⟩ | ⟨hout, ad3, c3, rfl⟩
  ·rw [if_pos rfl] at H
   have H' := Aside0.mk H
   clear H
   exact impl_ShortestCycle.e1
  ·rw [if_neg hout] at H
   by_cases c2 : (own.length : Int) < (out.length : Int)
   ·rw [if_pos c2] at H
    have H' := Aside0.mk H
    clear H
    have c2b : decide ((own.length : Int) < (out.length : Int)) = true := decide_eq_true c2
    have c2c : decide (own.length < out.length) = true := decide_eq_true (by omega)
    exact impl_ShortestCycle.e1
   rw [if_neg c2] at H
   have H' := Aside0.mk H
   clear H
   have c2b : decide ((own.length : Int) < (out.length : Int)) = false := decide_eq_false c2
   have c2c : decide (own.length < out.length) = false := decide_eq_false (by omega)
   exact impl_ShortestCycle.e0

/-! ### impl_judged: function 35 -/
def impl_judged.f (k : Nat) (l0 : List (S98)) : Option (Int × List Int × List Int) := (impl_OrderOf.f k l0).bind fun bt432 => (if bt432.2 = true then (some (1, bt432.1, ([] : List Int))) else ((impl_ShortestCycle.f k l0).bind fun t436 => (some (2, ([] : List Int), t436))))
theorem impl_judged.mono : ∀ a0 k, LeO (impl_judged.f k a0) (impl_judged.f (k + 1) a0) := by
 intro a0 k
 unfold impl_judged.f
 repeat' (with_reducible first | exact impl_OrderOf.mono .. | exact impl_ShortestCycle.mono .. | exact LeO.refl .. | exact LeO.none .. | refine LeO.ite ?_ ?_ | refine LeO.bind ?_ (fun _ => ?_))
theorem impl_judged.calls (k : Nat) (A0 : Option Addr) (c0 : Nat) (l0 : List (S98)) (r1 : Int) (r2 : List Int) (r3 : List Int) (w : World) (hr0 : Kd.C k98 w A0 l0.length l0) (hc0 : l0.length ≤ c0) (h : impl_judged.f k l0 = some (r1, r2, r3)) :
  Calls Tryz.prog 35 #[.slice A0 l0.length c0] w fun e w' => ∃ v1_ v2_ : Value, e = .returned (.agg #[.int .i64 r1, v1_, v2_]) ∧ Kd.R (Kd.int .i64) 3 w' w.heap.size (fun k_ => some k_ ≠ (v2_ : Value).ownBlock) v1_ r2 ∧ Kd.R (Kd.int .i64) 3 w' w.heap.size (fun k_ => some k_ ≠ (v1_ : Value).ownBlock) v2_ r3 ∧ Below w.heap.size w w' := by
 have hu34 := Tryz.underlying34
 have HR0 := Aside0.mk hr0
 have HC0 := Aside0.mk hc0
 clear hr0 hc0
 have HB := Aside0.mk (Below.refl w.heap.size w)
 have H : ((impl_OrderOf.f k l0).bind fun bt432 => (if bt432.2 = true then (some (1, bt432.1, ([] : List Int))) else ((impl_ShortestCycle.f k l0).bind fun t436 => (some (2, ([] : List Int), t436))))) = some (r1, r2, r3) := h
 clear h
 obtain ⟨⟨t432, t433⟩, A2, H⟩ := bi_ H
 try dsimp only at H
 by_cases c3 : t433 = true
 ·subst c3
  rw [if_pos rfl] at H
  simp only [Option.some.injEq, Prod.mk.injEq] at H
  obtain ⟨rfl, rfl, rfl⟩ := H
  go_enter Tryz.func35, Tryz.ntmps35
  go_wp2_with (first | ((with_reducible refine gate_dst (N := 2) rfl ?_); refine box_event ?hg (N := 2) ?hd (cs := #[.int .i64 0, .slice none 0 0, .slice none 0 0]) (t := 34) ?hr ?_; (case hd => rfl); (case hg => rfl); (case hr => first | (go_simp; done) | (go_simp; rfl)); intro gb431 hg w4 hbox hb; have BK431 := Aside0.mk (hbox); have GW431 := gw_ hg HB; have GE431 := gw_ hg HB; replace HB := hs_ HB hb; clear hb hbox hg) | ((with_reducible refine gate_callee (f := 64) rfl ?_); refine gm_ (some 7) Tryz.func64 #[.slice A0 l0.length c0] rfl ?_; (with_reducible refine (impl_OrderOf.calls k _ _ l0 t432 true _ ?side1 HC0.out A2.out).mono ?_); (case side1 => exact cb_ HR0.out HB.out); rintro e w5 ⟨v434, rfl, ho0, hb⟩; refine ⟨_, rfl, ?_⟩; have HO435 := Aside0.mk (Kd.R_lower ho0 (bz_ HB.out)); replace BK431 := kb_ BK431 hb; replace HB := hs_ HB hb; (try clear hb); (try clear ho0); obtain ⟨Ao6, co6, eo6⟩ := Kd.R_slice HO435.out; subst eo6; obtain ⟨hcz7_0, hcz7_1, hcz7_2, hfz7_0, hfz7_1, hfz7_2⟩ := cz3_ BK431.out))
  refine bodyPost_ret (results_cell_row rfl _ _ gb431 34 #[.int .i64 1, .slice Ao6 t432.length co6, .slice none 0 0] (0, 0) _ rfl (by (with_reducible repeat (first | refine blk_drewN ?_ _ | refine blk_drew ?_ | refine blk_alloc ?_ _)); refine blk_put (cs := #[.int .i64 1, .slice Ao6 t432.length co6, .slice none 0 0]) ?_ 2 _ rfl; (with_reducible repeat (first | refine blk_drewN ?_ _ | refine blk_drew ?_ | refine blk_alloc ?_ _)); refine blk_put (cs := #[.int .i64 1, .slice none 0 0, .slice none 0 0]) ?_ 1 _ rfl; (with_reducible repeat (first | refine blk_drewN ?_ _ | refine blk_drew ?_ | refine blk_alloc ?_ _)); refine blk_put (cs := #[.int .i64 0, .slice none 0 0, .slice none 0 0]) ?_ 0 _ rfl; (with_reducible repeat (first | refine blk_drewN ?_ _ | refine blk_drew ?_ | refine blk_alloc ?_ _)); exact BK431.out) Tryz.underlying34 rfl (by kernel_rfl)) rfl ?_
  exact ⟨_, _, fin_, rm_ (Kd.R_types HO435.out BK431.out (by decide)) (fun _ hk => (by simp [Value.ownBlock])), by first | exact Kd.R_nil _ _ _ _ _ | exact Kd.N_nil _ _ _ _ _ | exact Kd.V_nil _ _ _ _ _ | exact Kd.Q_nil _ _ _ _ _ | exact Kd.S_nil _ _ _ _ _, bb_ HB.out⟩
 ·replace c3 := Bool.eq_false_iff.mpr c3
  subst c3
  rw [if_neg (show ¬ (false = true) by decide)] at H
  obtain ⟨t436, A8, H⟩ := bi_ H
  simp only [Option.some.injEq, Prod.mk.injEq] at H
  obtain ⟨rfl, rfl, rfl⟩ := H
  go_enter Tryz.func35, Tryz.ntmps35
  go_wp2_with (first | ((with_reducible refine gate_dst (N := 2) rfl ?_); refine box_event ?hg (N := 2) ?hd (cs := #[.int .i64 0, .slice none 0 0, .slice none 0 0]) (t := 34) ?hr ?_; (case hd => rfl); (case hg => rfl); (case hr => first | (go_simp; done) | (go_simp; rfl)); intro gb431 hg w9 hbox hb; have BK431 := Aside0.mk (hbox); have GW431 := gw_ hg HB; have GE431 := gw_ hg HB; replace HB := hs_ HB hb; clear hb hbox hg) | ((with_reducible refine gate_callee (f := 64) rfl ?_); refine gm_ (some 7) Tryz.func64 #[.slice A0 l0.length c0] rfl ?_; (with_reducible refine (impl_OrderOf.calls k _ _ l0 t432 false _ ?side1 HC0.out A2.out).mono ?_); (case side1 => exact cb_ HR0.out HB.out); rintro e w10 ⟨v434, rfl, ho0, hb⟩; refine ⟨_, rfl, ?_⟩; have HO435 := Aside0.mk (Kd.R_lower ho0 (bz_ HB.out)); replace BK431 := kb_ BK431 hb; replace HB := hs_ HB hb; (try clear hb); (try clear ho0)) | ((with_reducible refine gate_callee (f := 65) rfl ?_); refine gm_ (some 14) Tryz.func65 #[.slice A0 l0.length c0] rfl ?_; (with_reducible refine (impl_ShortestCycle.calls k _ _ l0 t436 _ ?side1 HC0.out A8.out).mono ?_); (case side1 => exact cb_ HR0.out HB.out); rintro e w11 ⟨v437, rfl, ho0, hb⟩; refine ⟨_, rfl, ?_⟩; have HO438 := Aside0.mk (Kd.R_lower (Kd.R_new' ho0 (rl_ HO435.out)) (bz_ HB.out)); replace HO435 := re_ HO435 ho0 hb; replace BK431 := kb_ BK431 hb; replace HB := hs_ HB hb; (try clear hb); (try clear ho0); obtain ⟨Ao12, co12, eo12⟩ := Kd.R_slice HO438.out; subst eo12; obtain ⟨hcz13_0, hcz13_1, hcz13_2, hfz13_0, hfz13_1, hfz13_2⟩ := cz3_ BK431.out))
  refine bodyPost_ret (results_cell_row rfl _ _ gb431 34 #[.int .i64 2, .slice none 0 0, .slice Ao12 t436.length co12] (0, 0) _ rfl (by (with_reducible repeat (first | refine blk_drewN ?_ _ | refine blk_drew ?_ | refine blk_alloc ?_ _)); refine blk_put (cs := #[.int .i64 2, .slice none 0 0, .slice none 0 0]) ?_ 2 _ rfl; (with_reducible repeat (first | refine blk_drewN ?_ _ | refine blk_drew ?_ | refine blk_alloc ?_ _)); refine blk_put (cs := #[.int .i64 2, .slice none 0 0, .slice none 0 0]) ?_ 1 _ rfl; (with_reducible repeat (first | refine blk_drewN ?_ _ | refine blk_drew ?_ | refine blk_alloc ?_ _)); refine blk_put (cs := #[.int .i64 0, .slice none 0 0, .slice none 0 0]) ?_ 0 _ rfl; (with_reducible repeat (first | refine blk_drewN ?_ _ | refine blk_drew ?_ | refine blk_alloc ?_ _)); exact BK431.out) Tryz.underlying34 rfl (by kernel_rfl)) rfl ?_
  exact ⟨_, _, fin_, by first | exact Kd.R_nil _ _ _ _ _ | exact Kd.N_nil _ _ _ _ _ | exact Kd.V_nil _ _ _ _ _ | exact Kd.Q_nil _ _ _ _ _ | exact Kd.S_nil _ _ _ _ _, rm_ (Kd.R_types HO438.out BK431.out (by decide)) (fun _ hk => (by simp [Value.ownBlock])), bb_ HB.out⟩

end Go.Proofs.YtimdefbpoddoaaaGreat.PFnVerdicts
-- thin
