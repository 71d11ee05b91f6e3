/- The law's functions as plain functions, and their calls. No condition. -/
import Derived.Test.YtimdefbpoddoaaaPFnExactSafeRulesx0
import Derived.Test.YtimdefbpoddoaaaPFnExactSafeRulesx15
import Derived.Test.YtimdefbpoddoaaaPFnExactSafeRulesx16
import Derived.Test.YtimdefbpoddoaaaPFnExactSafeRulesx17
import Derived.Test.YtimdefbpoddoaaaPFnExactSafeRulesx18
import Derived.Test.YtimdefbpoddoaaaPFnExactSafeRulesx20
namespace Go.Proofs.Ytimdefbpoddoaaa.PFnExactSafeRules
open Go.RowKit Go.Proofs.YtimdefbpoddoaaaW.PrintWords Go.Proofs.YtimdefbpoddoaaaW.PrintLast Go.Proofs.YtimdefbpoddoaaaW.PrintMore
attribute [local go_sem] max2_int min2_int max_two min_two max_three min_three max_four min_four
set_option linter.unusedVariables false
set_option maxHeartbeats 8000000
set_option maxRecDepth 100000
set_option linter.unusedSimpArgs false

/-! ### impl_OrderOf: function 120 -/
mutual
def impl_OrderOf.l0 : Nat → List (S94) → List Int → Int → Option (List Int × Bool)
 | 0, _, _, _ => none
 | k + 1, x0, x4, x17 => if x17 < 128 then ((slices_Clone_int_int.f x4).bind fun t482 => (impl_OrderOf.l1 k x0 x4 x17 t482 x17 x4 (x4.length : Int) 0)) else (some (x4, true))
def impl_OrderOf.l1 : Nat → List (S94) → List Int → Int → List Int → Int → List Int → Int → Int → Option (List Int × Bool)
 | 0, _, _, _, _, _, _, _, _ => none
 | k + 1, x0, x4, x5, x6, x17, x22, x23, x24 => if x24 < x23 then (if 0 ≤ x24 then (if x24 < (x22.length : Int) then (if (rd x22 x24) < 0 then (if x24 < (x6.length : Int) then (impl_OrderOf.l1 k x0 x4 x5 (x6.set (x24 : Int).toNat (-2)) x17 x22 x23 (wrap64 (x24 + 1))) else (none)) else (impl_OrderOf.l1 k x0 x4 x5 x6 x17 x22 x23 (wrap64 (x24 + 1)))) else (none)) else (none)) else (impl_OrderOf.l2 k x0 x4 x5 x6 x17 x0 (x0.length : Int) 0)
def impl_OrderOf.l2 : Nat → List (S94) → List Int → Int → List Int → Int → List (S94) → Int → Int → Option (List Int × Bool)
 | 0, _, _, _, _, _, _, _, _ => none
 | k + 1, x0, x4, x5, x6, x17, x35, x36, x37 => if x37 < x36 then (if 0 ≤ x37 then (if x37 < (x35.length : Int) then (if 0 ≤ ((rd_T94 x35 x37).f0) then (if ((rd_T94 x35 x37).f0) < (x4.length : Int) then (if (rd x4 ((rd_T94 x35 x37).f0)) < 0 then (if 0 ≤ ((rd_T94 x35 x37).f1) then (if ((rd_T94 x35 x37).f1) < (x4.length : Int) then (if (rd x4 ((rd_T94 x35 x37).f1)) < 0 then (if ((rd_T94 x35 x37).f1) < (x6.length : Int) then (impl_OrderOf.l2 k x0 x4 x5 (x6.set (((rd_T94 x35 x37).f1) : Int).toNat (-1)) x17 x35 x36 (wrap64 (x37 + 1))) else (none)) else (impl_OrderOf.l2 k x0 x4 x5 x6 x17 x35 x36 (wrap64 (x37 + 1)))) else (none)) else (none)) else (impl_OrderOf.l2 k x0 x4 x5 x6 x17 x35 x36 (wrap64 (x37 + 1)))) else (none)) else (none)) else (none)) else (none)) else ((impl_nextRanked.f k x0 x6).bind fun t492 => (if t492 < 0 then (some (([] : List Int), false)) else (if 0 ≤ t492 then (if t492 < (x4.length : Int) then (impl_OrderOf.l0 k x0 (x4.set (t492 : Int).toNat x5) (wrap64 (x17 + 1))) else (none)) else (none))))
end
def impl_OrderOf.f (k : Nat) (l0 : List (S94)) : Option (List Int × Bool) := (impl_DependsOk.f k l0).bind fun t475 => (if t475 = true then ((slices_Repeat_int_int.f (([(-1)] : List Int)) 128).bind fun t479 => (impl_OrderOf.l0 k l0 t479 0)) else (some (([] : List Int), false)))
theorem impl_OrderOf.mono_l : ∀ k, (∀ y0 y1 y2, LeO (impl_OrderOf.l0 k y0 y1 y2) (impl_OrderOf.l0 (k + 1) y0 y1 y2)) ∧ (∀ y0 y1 y2 y3 y4 y5 y6 y7, LeO (impl_OrderOf.l1 k y0 y1 y2 y3 y4 y5 y6 y7) (impl_OrderOf.l1 (k + 1) y0 y1 y2 y3 y4 y5 y6 y7)) ∧ (∀ y0 y1 y2 y3 y4 y5 y6 y7, LeO (impl_OrderOf.l2 k y0 y1 y2 y3 y4 y5 y6 y7) (impl_OrderOf.l2 (k + 1) y0 y1 y2 y3 y4 y5 y6 y7))
 | 0 => ⟨fun _ _ _ r h => by simp [impl_OrderOf.l0] at h, fun _ _ _ _ _ _ _ _ r h => by simp [impl_OrderOf.l1] at h, fun _ _ _ _ _ _ _ _ r h => by simp [impl_OrderOf.l2] at h⟩
 | k + 1 => by
  obtain ⟨ih0, ih1, ih2⟩ := impl_OrderOf.mono_l k
  refine ⟨?_, ?_, ?_⟩
  ·intro y0 y1 y2
   unfold impl_OrderOf.l0
   repeat' first
   | (with_reducible exact ih0 _ _ _)
   | (with_reducible exact ih1 _ _ _ _ _ _ _ _)
   | (with_reducible exact ih2 _ _ _ _ _ _ _ _)
   | (with_reducible exact impl_DependsOk.mono _ _)
   | (with_reducible exact impl_nextRanked.mono _ _ _)
   | (with_reducible exact LeO.refl _)
   | (with_reducible exact LeO.none _)
   | (with_reducible refine LeO.ite ?_ ?_)
   | (with_reducible refine LeO.bind ?_ (fun _ => ?_))
   | exact ih0 _ _ _
   | exact ih1 _ _ _ _ _ _ _ _
   | exact ih2 _ _ _ _ _ _ _ _
   | exact impl_DependsOk.mono _ _
   | exact impl_nextRanked.mono _ _ _
   | exact LeO.none _
   | refine LeO.ite ?_ ?_
   | refine LeO.bind ?_ (fun _ => ?_)
  ·intro y0 y1 y2 y3 y4 y5 y6 y7
   unfold impl_OrderOf.l1
   repeat' first
   | (with_reducible exact ih0 _ _ _)
   | (with_reducible exact ih1 _ _ _ _ _ _ _ _)
   | (with_reducible exact ih2 _ _ _ _ _ _ _ _)
   | (with_reducible exact impl_DependsOk.mono _ _)
   | (with_reducible exact impl_nextRanked.mono _ _ _)
   | (with_reducible exact LeO.refl _)
   | (with_reducible exact LeO.none _)
   | (with_reducible refine LeO.ite ?_ ?_)
   | (with_reducible refine LeO.bind ?_ (fun _ => ?_))
   | exact ih0 _ _ _
   | exact ih1 _ _ _ _ _ _ _ _
   | exact ih2 _ _ _ _ _ _ _ _
   | exact impl_DependsOk.mono _ _
   | exact impl_nextRanked.mono _ _ _
   | exact LeO.none _
   | refine LeO.ite ?_ ?_
   | refine LeO.bind ?_ (fun _ => ?_)
  ·intro y0 y1 y2 y3 y4 y5 y6 y7
   unfold impl_OrderOf.l2
   repeat' first
   | (with_reducible exact ih0 _ _ _)
   | (with_reducible exact ih1 _ _ _ _ _ _ _ _)
   | (with_reducible exact ih2 _ _ _ _ _ _ _ _)
   | (with_reducible exact impl_DependsOk.mono _ _)
   | (with_reducible exact impl_nextRanked.mono _ _ _)
   | (with_reducible exact LeO.refl _)
   | (with_reducible exact LeO.none _)
   | (with_reducible refine LeO.ite ?_ ?_)
   | (with_reducible refine LeO.bind ?_ (fun _ => ?_))
   | exact ih0 _ _ _
   | exact ih1 _ _ _ _ _ _ _ _
   | exact ih2 _ _ _ _ _ _ _ _
   | exact impl_DependsOk.mono _ _
   | exact impl_nextRanked.mono _ _ _
   | exact LeO.none _
   | refine LeO.ite ?_ ?_
   | refine LeO.bind ?_ (fun _ => ?_)
theorem impl_OrderOf.mono : ∀ a0 k, LeO (impl_OrderOf.f k a0) (impl_OrderOf.f (k + 1) a0) := by
 intro a0 k
 obtain ⟨ih0, ih1, ih2⟩ := impl_OrderOf.mono_l k
 unfold impl_OrderOf.f
 repeat' first
   | (with_reducible exact ih0 _ _ _)
   | (with_reducible exact ih1 _ _ _ _ _ _ _ _)
   | (with_reducible exact ih2 _ _ _ _ _ _ _ _)
   | (with_reducible exact impl_DependsOk.mono _ _)
   | (with_reducible exact impl_nextRanked.mono _ _ _)
   | (with_reducible exact LeO.refl _)
   | (with_reducible exact LeO.none _)
   | (with_reducible refine LeO.ite ?_ ?_)
   | (with_reducible refine LeO.bind ?_ (fun _ => ?_))
   | exact ih0 _ _ _
   | exact ih1 _ _ _ _ _ _ _ _
   | exact ih2 _ _ _ _ _ _ _ _
   | exact impl_DependsOk.mono _ _
   | exact impl_nextRanked.mono _ _ _
   | exact LeO.none _
   | refine LeO.ite ?_ ?_
   | refine LeO.bind ?_ (fun _ => ?_)
theorem impl_OrderOf.e0 {P : Prop} (h : P := by
 go_wp2_with (first | ((with_reducible refine gate_dst (N := 10) rfl ?_); refine box_event ?hg (N := 10) ?hd (cs := #[.int .i64 0, .int .i64 0]) (t := 94) ?hr ?_; (case hd => rfl); (case hg => rfl); (case hr => first | (go_simp; done) | (go_simp; rfl)); intro gb488 hg w_0 hbox hb; replace HO_4 := Aside0.mk (Kd.R_below (ra_ HO_4.out) hb); replace HO_6 := Aside0.mk (Kd.R_below (ra_ HO_6.out) hb); have BK488 := Aside0.mk (hbox); have GW488 := Aside0.mk ((by rw [hg]; exact (bz_ HB.out) : w.heap.size ≤ gb488)); have GE488 := Aside0.mk ((by rw [hg]; exact (bz_ HB.out) : w.heap.size ≤ gb488)); replace HB := Aside0.mk (bs_ HB.out hb); clear hb hbox hg; obtain ⟨hcz_0, hcz_1, hfz_0, hfz_1⟩ := cz2_ BK488.out; have p489 : 0 ≤ (((rd_T94 l0 x37_3).f0) : Int) := of_decide_eq_true dg_; have q489 : ((rd_T94 l0 x37_3).f0) < (x4_1.length : Int) := of_decide_eq_true dg_; obtain ⟨ad489, e489, hx489_0⟩ := Kd.at_int (Kd.R_reads' HO_4.out).2.2 ((rd_T94 l0 x37_3).f0) p489 q489; cases e489; have hn489_0 : ad489.block ≠ gb488 := Kd.own_blk (Kd.R_ne HO_4.out BK488.out (by decide)); have hn489_1 : ad489.block ≠ gb488 := Kd.own_blk (Kd.R_ne HO_4.out BK488.out (by decide)); replace hx489_0 := (cell_far (p := ⟨gb488, 0, none⟩) (by first | (rw [add_block]; exact hn489_0) | (show (Addr.add _ _).block ≠ _; rw [add_block]; exact hn489_0) | exact hn489_0) (.int .i64 ((rd_T94 l0 x37_3).f0))).trans hx489_0; replace hx489_0 := (cell_far (p := ⟨gb488, 1, none⟩) (by first | (rw [add_block]; exact hn489_1) | (show (Addr.add _ _).block ≠ _; rw [add_block]; exact hn489_1) | exact hn489_1) (.int .i64 ((rd_T94 l0 x37_3).f1))).trans hx489_0; clear hn489_0; clear hn489_1; replace p489 := eq_true p489; replace q489 := eq_true q489; have p490 : 0 ≤ (((rd_T94 l0 x37_3).f1) : Int) := of_decide_eq_true dg_; have q490 : ((rd_T94 l0 x37_3).f1) < (x4_1.length : Int) := of_decide_eq_true dg_; obtain ⟨ad490, e490, hx490_0⟩ := Kd.at_int (Kd.R_reads' HO_4.out).2.2 ((rd_T94 l0 x37_3).f1) p490 q490; obtain rfl : ad489 = ad490 := (by injection e490); have hn490_0 : ad489.block ≠ gb488 := Kd.own_blk (Kd.R_ne HO_4.out BK488.out (by decide)); have hn490_1 : ad489.block ≠ gb488 := Kd.own_blk (Kd.R_ne HO_4.out BK488.out (by decide)); replace hx490_0 := (cell_far (p := ⟨gb488, 0, none⟩) (by first | (rw [add_block]; exact hn490_0) | (show (Addr.add _ _).block ≠ _; rw [add_block]; exact hn490_0) | exact hn490_0) (.int .i64 ((rd_T94 l0 x37_3).f0))).trans hx490_0; replace hx490_0 := (cell_far (p := ⟨gb488, 1, none⟩) (by first | (rw [add_block]; exact hn490_1) | (show (Addr.add _ _).block ≠ _; rw [add_block]; exact hn490_1) | exact hn490_1) (.int .i64 ((rd_T94 l0 x37_3).f1))).trans hx490_0; clear hn490_0; clear hn490_1; replace p490 := eq_true p490; replace q490 := eq_true q490) | ((with_reducible refine gate_dst (N := 10) rfl ?_); refine box_event ?hg (N := 10) ?hd (cs := #[.int .i64 0, .int .i64 0]) (t := 94) ?hr ?_; (case hd => rfl); (case hg => rfl); (case hr => first | (go_simp; done) | (go_simp; rfl)); intro gb488 hg w_0 hbox hb; replace HO_4 := Aside0.mk (Kd.R_below (ra_ HO_4.out) hb); replace HO_6 := Aside0.mk (Kd.R_below (ra_ HO_6.out) hb); have BK488 := Aside0.mk (hbox); have GW488 := Aside0.mk ((by rw [hg]; exact (bz_ HB.out) : w.heap.size ≤ gb488)); have GE488 := Aside0.mk ((by rw [hg]; exact (bz_ HB.out) : w.heap.size ≤ gb488)); replace HB := Aside0.mk (bs_ HB.out hb); clear hb hbox hg; obtain ⟨hcz_0, hcz_1, hfz_0, hfz_1⟩ := cz2_ BK488.out; have p489 : 0 ≤ (((rd_T94 l0 x37_3).f0) : Int) := of_decide_eq_true dg_; have q489 : ((rd_T94 l0 x37_3).f0) < (x4_1.length : Int) := of_decide_eq_true dg_; obtain ⟨ad489, e489, hx489_0⟩ := Kd.at_int (Kd.R_reads' HO_4.out).2.2 ((rd_T94 l0 x37_3).f0) p489 q489; cases e489; have hn489_0 : ad489.block ≠ gb488 := Kd.own_blk (Kd.R_ne HO_4.out BK488.out (by decide)); have hn489_1 : ad489.block ≠ gb488 := Kd.own_blk (Kd.R_ne HO_4.out BK488.out (by decide)); replace hx489_0 := (cell_far (p := ⟨gb488, 0, none⟩) (by first | (rw [add_block]; exact hn489_0) | (show (Addr.add _ _).block ≠ _; rw [add_block]; exact hn489_0) | exact hn489_0) (.int .i64 ((rd_T94 l0 x37_3).f0))).trans hx489_0; replace hx489_0 := (cell_far (p := ⟨gb488, 1, none⟩) (by first | (rw [add_block]; exact hn489_1) | (show (Addr.add _ _).block ≠ _; rw [add_block]; exact hn489_1) | exact hn489_1) (.int .i64 ((rd_T94 l0 x37_3).f1))).trans hx489_0; clear hn489_0; clear hn489_1; replace p489 := eq_true p489; replace q489 := eq_true q489))
 go_roundg k3
 case measure => have := HK1.out; have := HK2.out; have := HK3.out; omega
 case rel => exact ⟨(x6_3), (wrap64 (x37_3 + 1)), ef_, H', ⟨by have := HK1.out; have := HK2.out; have := HK3.out; omega⟩, ⟨rm_ (Kd.R_types HO_4.out BK488.out (by decide)) (fun _ hk => hk.1)⟩, ⟨rm_ (Kd.R_types HO_6.out BK488.out (by decide)) (fun _ hk => hk.1)⟩, ⟨bb_ HB.out⟩⟩) : P := h
theorem impl_OrderOf.calls (k : Nat) (A0 : Option Addr) (c0 : Nat) (l0 : List (S94)) (r1 : List Int) (r2 : Bool) (w : World) (hr0 : Kd.C k94 w A0 l0.length l0) (hc0 : l0.length ≤ c0) (h : impl_OrderOf.f k l0 = some (r1, r2)) :
  Calls Try.prog 120 #[.slice A0 l0.length c0] w fun e w' => ∃ v0_ : Value, e = .returned (.tuple #[v0_, .bool r2]) ∧ Kd.R (Kd.int .i64) 3 w' w.heap.size (fun _ => True) v0_ r1 ∧ Below w.heap.size w w' := by
 have hu94 := Try.underlying94
 have HR0 := Aside0.mk hr0
 have HC0 := Aside0.mk hc0
 clear hr0 hc0
 have HB := Aside0.mk (Below.refl w.heap.size w)
 have H : ((impl_DependsOk.f k l0).bind fun t475 => (if t475 = true then ((slices_Repeat_int_int.f (([(-1)] : List Int)) 128).bind fun t479 => (impl_OrderOf.l0 k l0 t479 0)) else (some (([] : List Int), false)))) = some (r1, r2) := h
 clear h
 replace H := Option.bind_eq_some_iff.mp H
 obtain ⟨t475, A20, H⟩ := H
 try dsimp only at H
 have A2 := Aside0.mk A20
 clear A20
 by_cases c3 : t475 = true
 ·subst c3
  rw [if_pos rfl] at H
  obtain ⟨y476, hy476⟩ : ∃ y_ : List Int, y_ = (([(-1)] : List Int)) := ⟨_, rfl⟩
  replace H : ((slices_Repeat_int_int.f y476 128).bind fun t479 => (impl_OrderOf.l0 k l0 t479 0)) = some (r1, r2) := by first | (rw [hy476]; with_reducible exact H) | (have H2_ := (Option.bind_some _ _).symm.trans H; rw [hy476]; with_reducible exact H2_) | (have H2_ := (Option.bind_some _ _).symm.trans H; with_reducible exact H2_) | with_reducible exact H | (rw [hy476]; exact H) | exact H
  have Ny476 := Aside0.mk hy476
  clear hy476
  replace H := Option.bind_eq_some_iff.mp H
  obtain ⟨t479, A40, H⟩ := H
  try dsimp only at H
  have A4 := Aside0.mk A40
  clear A40
  have H' := Aside0.mk H
  clear H
  go_enter Try.func120, Try.ntmps120
  go_wp2_with (first | ((with_reducible refine gate_callee (f := 124) rfl ?_); refine gm_ (some 13) Try.func124 #[.slice A0 l0.length c0] rfl ?_; (with_reducible refine (impl_DependsOk.calls k _ _ l0 true _ ?side1 HC0.out A2.out).mono ?_); (case side1 => repeat (first | exact HR0.out | (with_reducible refine Kd.C_alloc ?_ _) | (with_reducible refine Kd.C_drewN ?_ _) | (with_reducible refine Kd.C_drew ?_))); rintro e w5 ⟨rfl, hb⟩; refine ⟨_, rfl, ?_⟩; replace HB := Aside0.mk (bs_ HB.out hb); (try clear hb)) | ((with_reducible refine gate_dst (N := 15) rfl ?_); refine Kd.R_lit (Kd.int .i64) _ 3 ?hg (N := 15) ?hd (xs := ([(-1)] : List Int)) (inner := [.int .i64 (-1)]) (ok := fun _ => True) (okp := fun _ => True) ?hr ?hp (fun _ hk => hk) trivial (Below.refl _ _) (Nat.le_refl _) (by simp) ?_; (case hd => rfl); (case hg => rfl); (case hr => first | (go_simp; done) | (go_simp; rfl)); (case hp => exact (Reps.one (show Kd.M (Kd.int .i64) _ _ _ (-1) [.int .i64 (-1)] from rfl) (Reps.none _ _))); intro v477 w6 ho7 hb hg_ hnew_; clear hg_ hnew_; (first | rw [← Ny476.out] at ho7 | (simp only [Int.reduceToNat] at ho7; rw [← Ny476.out] at ho7)); have HO478 := Aside0.mk (Kd.R_lower ho7 (bz_ HB.out)); replace HB := Aside0.mk (bs_ HB.out hb); clear hb ho7; obtain ⟨Ao8, co8, eo8⟩ := Kd.R_slice HO478.out; subst eo8) | ((with_reducible refine gate_callee (f := 145) rfl ?_); refine gm_ (some 16) Try.func145 #[.slice Ao8 y476.length co8, .int .i64 128] rfl ?_; (with_reducible refine (slices_Repeat_int_int.calls _ _ y476 128 t479 _ ?side1 ?side2 A4.out).mono ?_); (case side1 => repeat (first | exact (Kd.R_reads' HO478.out).2.2 | (with_reducible refine Kd.C_alloc ?_ _) | (with_reducible refine Kd.C_drewN ?_ _) | (with_reducible refine Kd.C_drew ?_))); (case side2 => exact (Kd.R_reads' HO478.out).2.1); rintro e w9 ⟨v480, rfl, ho0, hb⟩; refine ⟨_, rfl, ?_⟩; have HO481 := Aside0.mk (Kd.R_lower (Kd.R_new' ho0 (rl_ HO478.out)) (bz_ HB.out)); replace HO478 := Aside0.mk (Kd.R_elder' (ra_ HO478.out) (Kd.R_base ho0) hb); replace HB := Aside0.mk (bs_ HB.out hb); (try clear hb); (try clear ho0)))
  go_loopg [17] k (fun kq v17 w' => ∃ (x4_1 : List Int) (x17_1 : Int), v17 = .int .i64 x17_1 ∧ Aside0 (impl_OrderOf.l0 kq l0 x4_1 x17_1 = some (r1, r2)) ∧ Aside0 (kq ≤ k) ∧ Aside0 (Kd.R (Kd.int .i64) 3 w' w.heap.size (fun _ => True) v480 x4_1) ∧ Aside0 (Below w.heap.size w w'))
  case atStart => exact ⟨(t479), (0), ef_, H', ⟨Nat.le_refl _⟩, ⟨by (with_reducible repeat (first | apply Kd.R_alloc | apply Kd.R_drewN | apply Kd.R_drew)); exact Kd.R_mono HO481.out (fun _ hk => trivial)⟩, ⟨bb_ HB.out⟩⟩
  clear H'
  try clear c3
  obtain ⟨x4_1, x17_1, rfl, HA, HK1, HO_4, HB⟩ := hrel
  obtain _ | k1 := gk
  ·exact absurd HA.out (by simp [impl_OrderOf.l0])
  have H := HA.out
  clear HA
  simp only [impl_OrderOf.l0] at H
  by_cases c10 : x17_1 < 128
  rotate_left
  ·rw [if_neg c10] at H
   have c10b0 : decide (x17_1 < 128) = false := decide_eq_false c10
   clear c10
   simp only [Option.some.injEq, Prod.mk.injEq] at H
   obtain ⟨rfl, rfl⟩ := H
   go_wp2
   go_ret2
   exact ⟨_, fin_, by (with_reducible repeat (first | apply Kd.R_alloc | apply Kd.R_drewN | apply Kd.R_drew)); exact HO_4.out, bb_ HB.out⟩
  rw [if_pos c10] at H
  have c10b0 : decide (x17_1 < 128) = true := decide_eq_true c10
  clear c10
  replace H := Option.bind_eq_some_iff.mp H
  obtain ⟨t482, A110, H⟩ := H
  try dsimp only at H
  have A11 := Aside0.mk A110
  clear A110
  have H' := Aside0.mk H
  clear H
  obtain ⟨Ao12, co12, eo12⟩ := Kd.R_slice HO_4.out
  subst eo12
  go_wp2_with (first | ((with_reducible refine gate_callee (f := 146) rfl ?_); refine gm_ (some 21) Try.func146 #[.slice Ao12 x4_1.length co12] rfl ?_; (with_reducible refine (slices_Clone_int_int.calls _ _ x4_1 t482 _ ?side1 ?side2 A11.out).mono ?_); (case side1 => repeat (first | exact (Kd.R_reads' HO_4.out).2.2 | (with_reducible refine Kd.C_alloc ?_ _) | (with_reducible refine Kd.C_drewN ?_ _) | (with_reducible refine Kd.C_drew ?_))); (case side2 => exact (Kd.R_reads' HO_4.out).2.1); rintro e w13 ⟨v483, rfl, ho0, hb⟩; refine ⟨_, rfl, ?_⟩; have HO484 := Aside0.mk (Kd.R_lower (Kd.R_new' ho0 (rl_ HO_4.out)) (bz_ HB.out)); replace HO_4 := Aside0.mk (Kd.R_elder' (ra_ HO_4.out) (Kd.R_base ho0) hb); replace HB := Aside0.mk (bs_ HB.out hb); (try clear hb); (try clear ho0)))
  go_loopg [24] k1 (fun kq v24 w' => ∃ (x6_2 : List Int) (x24_2 : Int), v24 = .int .i64 x24_2 ∧ Aside0 (impl_OrderOf.l1 kq l0 x4_1 x17_1 x6_2 x17_1 x4_1 (x4_1.length : Int) x24_2 = some (r1, r2)) ∧ Aside0 (kq ≤ k1) ∧ Aside0 (Kd.R (Kd.int .i64) 3 w' w.heap.size (fun k_ => some k_ ≠ (v483 : Value).ownBlock) (.slice Ao12 x4_1.length co12) x4_1) ∧ Aside0 (Kd.R (Kd.int .i64) 3 w' w.heap.size (fun k_ => some k_ ≠ ((.slice Ao12 x4_1.length co12) : Value).ownBlock ∧ some k_ ≠ ((.slice Ao12 x4_1.length co12) : Value).ownBlock) v483 x6_2) ∧ Aside0 (Kd.R (Kd.int .i64) 3 w' w.heap.size (fun k_ => some k_ ≠ (v483 : Value).ownBlock) (.slice Ao12 x4_1.length co12) x4_1) ∧ Aside0 (Below w.heap.size w w'))
  case atStart => exact ⟨(t482), (0), ef_, H', ⟨Nat.le_refl _⟩, ⟨by (with_reducible repeat (first | apply Kd.R_alloc | apply Kd.R_drewN | apply Kd.R_drew)); exact Kd.R_mono HO_4.out (fun _ hk => hk.2)⟩, ⟨by (with_reducible repeat (first | apply Kd.R_alloc | apply Kd.R_drewN | apply Kd.R_drew)); exact Kd.R_mono HO484.out (fun _ hk => ⟨hk.2, hk.2⟩)⟩, ⟨by (with_reducible repeat (first | apply Kd.R_alloc | apply Kd.R_drewN | apply Kd.R_drew)); exact Kd.R_mono HO_4.out (fun _ hk => hk.2)⟩, ⟨bb_ HB.out⟩⟩
  clear H'
  try clear c3
  try clear c10
  try clear c10b0
  obtain ⟨x6_2, x24_2, rfl, HA, HK2, HO_4, HO_6, HO_22, HB⟩ := hrel
  obtain _ | k2 := gk
  ·exact absurd HA.out (by simp [impl_OrderOf.l1])
  have H := HA.out
  clear HA
  simp only [impl_OrderOf.l1] at H
  by_cases c14 : x24_2 < (x4_1.length : Int)
  ·rw [if_pos c14] at H
   have c14b0 : decide (x24_2 < (x4_1.length : Int)) = true := decide_eq_true c14
   clear c14
   by_cases c15 : 0 ≤ x24_2
   rotate_left
   ·rw [if_neg c15] at H
    exact absurd H (by simp)
   rw [if_pos c15] at H
   have c15b0 : decide (0 ≤ x24_2) = true := decide_eq_true c15
   clear c15
   by_cases c16 : x24_2 < (x4_1.length : Int)
   rotate_left
   ·rw [if_neg c16] at H
    exact absurd H (by simp)
   rw [if_pos c16] at H
   have c16b0 : decide (x24_2 < (x4_1.length : Int)) = true := decide_eq_true c16
   clear c16
   by_cases c17 : (rd x4_1 x24_2) < 0
   rotate_left
   ·rw [if_neg c17] at H
    have c17b0 : decide ((rd x4_1 x24_2) < 0) = false := decide_eq_false c17
    clear c17
    have H' := Aside0.mk H
    clear H
    have p485 : 0 ≤ (x24_2 : Int) := of_decide_eq_true dg_
    have q485 : x24_2 < (x4_1.length : Int) := of_decide_eq_true dg_
    obtain ⟨ad485, e485, hx485_0⟩ := Kd.at_int (Kd.R_reads' HO_22.out).2.2 x24_2 p485 q485
    cases e485
    replace p485 := eq_true p485
    replace q485 := eq_true q485
    go_wp2
    go_roundg k2
    case measure => have := HK1.out; have := HK2.out; omega
    case rel => exact ⟨(x6_2), (wrap64 (x24_2 + 1)), ef_, H', ⟨by have := HK1.out; have := HK2.out; omega⟩, ⟨by (with_reducible repeat (first | apply Kd.R_alloc | apply Kd.R_drewN | apply Kd.R_drew)); exact HO_4.out⟩, ⟨by (with_reducible repeat (first | apply Kd.R_alloc | apply Kd.R_drewN | apply Kd.R_drew)); exact HO_6.out⟩, ⟨by (with_reducible repeat (first | apply Kd.R_alloc | apply Kd.R_drewN | apply Kd.R_drew)); exact HO_22.out⟩, ⟨bb_ HB.out⟩⟩
   rw [if_pos c17] at H
   have c17b0 : decide ((rd x4_1 x24_2) < 0) = true := decide_eq_true c17
   clear c17
   by_cases c18 : x24_2 < (x6_2.length : Int)
   rotate_left
   ·rw [if_neg c18] at H
    exact absurd H (by simp)
   rw [if_pos c18] at H
   have c18b0 : decide (x24_2 < (x6_2.length : Int)) = true := decide_eq_true c18
   clear c18
   obtain ⟨y486, hy486⟩ : ∃ y_ : List Int, y_ = (x6_2.set (x24_2 : Int).toNat (-2)) := ⟨_, rfl⟩
   replace H : (impl_OrderOf.l1 k2 l0 x4_1 x17_1 y486 x17_1 x4_1 (x4_1.length : Int) (wrap64 (x24_2 + 1))) = some (r1, r2) := by first | (rw [hy486]; with_reducible exact H) | (have H2_ := (Option.bind_some _ _).symm.trans H; rw [hy486]; with_reducible exact H2_) | (have H2_ := (Option.bind_some _ _).symm.trans H; with_reducible exact H2_) | with_reducible exact H | (rw [hy486]; exact H) | exact H
   have Ny486 := Aside0.mk hy486
   clear hy486
   have H' := Aside0.mk H
   clear H
   have p485 : 0 ≤ (x24_2 : Int) := of_decide_eq_true dg_
   have q485 : x24_2 < (x4_1.length : Int) := of_decide_eq_true dg_
   obtain ⟨ad485, e485, hx485_0⟩ := Kd.at_int (Kd.R_reads' HO_22.out).2.2 x24_2 p485 q485
   cases e485
   replace p485 := eq_true p485
   replace q485 := eq_true q485
   have p19 : 0 ≤ (x24_2 : Int) := of_decide_eq_true dg_
   have q19 : (x24_2 : Int) < ((x6_2.length : Int) : Int) := of_decide_eq_true dg_
   obtain ⟨go19, co19, eo19, gb19, gl19, cl19, HG19⟩ := Kd.R_form HO_6.out (by omega)
   (first | cases eo19 | (injection eo19 with ea_ en_ ec_; (first | subst ea_ | (injection ea_ with ea_; subst ea_)); subst ec_; clear en_))
   have GB19 := Aside0.mk gb19
   have GG19 := Aside0.mk HG19
   clear gb19 gl19 HG19
   obtain ⟨hx19_0, hf19_0⟩ := Kd.R_celln 0 HO_6.out (x24_2 : Int) p19 q19
   replace p19 := eq_true p19
   replace q19 := eq_true q19
   have HP20 := Kd.R_putg HO_6.out (x24_2 : Int) (-2)
   go_wp2_with (first | ((with_reducible refine gate_store (t := 3) (p := 33) rfl ?_); refine store_event (t := 3) (p := 33) (v := ?vo_w21) (w1 := (wr.setCell ⟨go19, (x24_2 : Int).toNat, none⟩ (.int .i64 (-2)))) ?hg ?ho ?hn ?hr ?_; (case ho => rfl); (case hg => rfl); (case hn => rfl); (case hr => first | (go_simp; done) | (go_simp; rfl)); intro w21 hw; have hg : wr.grownBy w21 (some go19) := (by rw [hw]; exact HP20.2); have hp_ : Kd.R (Kd.int .i64) 3 w21 w.heap.size (fun k_ => some k_ ≠ (.slice (some ad485) x4_1.length co12 : Value).ownBlock ∧ some k_ ≠ (.slice (some ad485) x4_1.length co12 : Value).ownBlock) (.slice (some ⟨go19, 0, none⟩) x6_2.length co19) y486 := (by rw [hw, Ny486.out]; exact HP20.1); clear HP20; replace HO_4 := Aside0.mk (Kd.R_after (v := (.slice (some ⟨go19, 0, none⟩) x6_2.length co19)) (v1 := (.slice (some ⟨go19, 0, none⟩) x6_2.length co19)) (ok := (fun _ => True)) (by (with_reducible repeat (first | apply Kd.R_alloc | apply Kd.R_drewN | apply Kd.R_drew)); exact Kd.R_mono HO_4.out (fun _ hk => ⟨trivial, hk⟩)) hg (.inl rfl)); replace HO_6 := Aside0.mk (hp_); replace HO_22 := Aside0.mk (Kd.R_after (v := (.slice (some ⟨go19, 0, none⟩) x6_2.length co19)) (v1 := (.slice (some ⟨go19, 0, none⟩) x6_2.length co19)) (ok := (fun _ => True)) (by (with_reducible repeat (first | apply Kd.R_alloc | apply Kd.R_drewN | apply Kd.R_drew)); exact Kd.R_mono HO_22.out (fun _ hk => ⟨trivial, hk⟩)) hg (.inl rfl)); replace HB := Aside0.mk ((by rw [hw]; exact below_set (HB.out) GB19.out : Below w.heap.size w w21)); clear hg hw hp_))
   go_roundg k2
   case measure => have := HK1.out; have := HK2.out; omega
   case rel => exact ⟨(y486), (wrap64 (x24_2 + 1)), ef_, H', ⟨by have := HK1.out; have := HK2.out; omega⟩, ⟨by (with_reducible repeat (first | apply Kd.R_alloc | apply Kd.R_drewN | apply Kd.R_drew)); exact Kd.R_mono HO_4.out (fun _ hk => hk.2)⟩, ⟨by (with_reducible repeat (first | apply Kd.R_alloc | apply Kd.R_drewN | apply Kd.R_drew)); exact HO_6.out⟩, ⟨by (with_reducible repeat (first | apply Kd.R_alloc | apply Kd.R_drewN | apply Kd.R_drew)); exact Kd.R_mono HO_22.out (fun _ hk => hk.2)⟩, ⟨bb_ HB.out⟩⟩
  rw [if_neg c14] at H
  have c14b0 : decide (x24_2 < (x4_1.length : Int)) = false := decide_eq_false c14
  clear c14
  have H' := Aside0.mk H
  clear H
  go_wp2
  go_loopg [37] k2 (fun kq v37 w' => ∃ (x6_3 : List Int) (x37_3 : Int), v37 = .int .i64 x37_3 ∧ Aside0 (impl_OrderOf.l2 kq l0 x4_1 x17_1 x6_3 x17_1 l0 (l0.length : Int) x37_3 = some (r1, r2)) ∧ Aside0 (kq ≤ k2) ∧ Aside0 (Kd.R (Kd.int .i64) 3 w' w.heap.size (fun k_ => some k_ ≠ (v483 : Value).ownBlock) (.slice Ao12 x4_1.length co12) x4_1) ∧ Aside0 (Kd.R (Kd.int .i64) 3 w' w.heap.size (fun k_ => some k_ ≠ ((.slice Ao12 x4_1.length co12) : Value).ownBlock) v483 x6_3) ∧ Aside0 (Below w.heap.size w w'))
  case atStart => exact ⟨(x6_2), (0), ef_, H', ⟨Nat.le_refl _⟩, ⟨by (with_reducible repeat (first | apply Kd.R_alloc | apply Kd.R_drewN | apply Kd.R_drew)); exact HO_4.out⟩, ⟨by (with_reducible repeat (first | apply Kd.R_alloc | apply Kd.R_drewN | apply Kd.R_drew)); exact Kd.R_mono HO_6.out (fun _ hk => hk.1)⟩, ⟨bb_ HB.out⟩⟩
  clear H'
  try clear c3
  try clear c10
  try clear c10b0
  try clear c14
  try clear c14b0
  obtain ⟨x6_3, x37_3, rfl, HA, HK3, HO_4, HO_6, HB⟩ := hrel
  obtain _ | k3 := gk
  ·exact absurd HA.out (by simp [impl_OrderOf.l2])
  have H := HA.out
  clear HA
  simp only [impl_OrderOf.l2] at H
  by_cases c22 : x37_3 < (l0.length : Int)
  rotate_left
  ·rw [if_neg c22] at H
   have c22b0 : decide (x37_3 < (l0.length : Int)) = false := decide_eq_false c22
   clear c22
   replace H := Option.bind_eq_some_iff.mp H
   obtain ⟨t492, A430, H⟩ := H
   try dsimp only at H
   have A43 := Aside0.mk A430
   clear A430
   by_cases c44 : t492 < 0
   ·rw [if_pos c44] at H
    have c44b0 : decide (t492 < 0) = true := decide_eq_true c44
    clear c44
    simp only [Option.some.injEq, Prod.mk.injEq] at H
    obtain ⟨rfl, rfl⟩ := H
    obtain ⟨Ao45, co45, eo45⟩ := Kd.R_slice HO_6.out
    subst eo45
    go_wp2_with (first | ((with_reducible refine gate_callee (f := 147) rfl ?_); refine gm_ (some 62) Try.func147 #[.slice A0 l0.length c0, .slice Ao45 x6_3.length co45] rfl ?_; (with_reducible refine (impl_nextRanked.calls k3 _ _ l0 _ _ x6_3 t492 _ ?side1 HC0.out ?side3 ?side4 A43.out).mono ?_); (case side1 => exact cb_ HR0.out HB.out); (case side3 => repeat (first | exact (Kd.R_reads' HO_6.out).2.2 | (with_reducible refine Kd.C_alloc ?_ _) | (with_reducible refine Kd.C_drewN ?_ _) | (with_reducible refine Kd.C_drew ?_))); (case side4 => exact (Kd.R_reads' HO_6.out).2.1); rintro e w' ⟨rfl, ⟨nd, rfl⟩⟩; refine ⟨_, rfl, ?_⟩))
    go_ret2
    exact ⟨_, fin_, by first | exact Kd.R_nil _ _ _ _ _ | exact Kd.N_nil _ _ _ _ _ | exact Kd.V_nil _ _ _ _ _ | exact Kd.Q_nil _ _ _ _ _ | exact Kd.S_nil _ _ _ _ _, bb_ HB.out⟩
   rw [if_neg c44] at H
   have c44b0 : decide (t492 < 0) = false := decide_eq_false c44
   clear c44
   by_cases c46 : 0 ≤ t492
   rotate_left
   ·rw [if_neg c46] at H
    exact absurd H (by simp)
   rw [if_pos c46] at H
   have c46b0 : decide (0 ≤ t492) = true := decide_eq_true c46
   clear c46
   by_cases c47 : t492 < (x4_1.length : Int)
   rotate_left
   ·rw [if_neg c47] at H
    exact absurd H (by simp)
   rw [if_pos c47] at H
   have c47b0 : decide (t492 < (x4_1.length : Int)) = true := decide_eq_true c47
   clear c47
   obtain ⟨y493, hy493⟩ : ∃ y_ : List Int, y_ = (x4_1.set (t492 : Int).toNat x17_1) := ⟨_, rfl⟩
   replace H : (impl_OrderOf.l0 k3 l0 y493 (wrap64 (x17_1 + 1))) = some (r1, r2) := by first | (rw [hy493]; with_reducible exact H) | (have H2_ := (Option.bind_some _ _).symm.trans H; rw [hy493]; with_reducible exact H2_) | (have H2_ := (Option.bind_some _ _).symm.trans H; with_reducible exact H2_) | with_reducible exact H | (rw [hy493]; exact H) | exact H
   have Ny493 := Aside0.mk hy493
   clear hy493
   have H' := Aside0.mk H
   clear H
   obtain ⟨Ao49, co49, eo49⟩ := Kd.R_slice HO_6.out
   subst eo49
   go_wp2_with (first | ((with_reducible refine gate_callee (f := 147) rfl ?_); refine gm_ (some 62) Try.func147 #[.slice A0 l0.length c0, .slice Ao49 x6_3.length co49] rfl ?_; (with_reducible refine (impl_nextRanked.calls k3 _ _ l0 _ _ x6_3 t492 _ ?side1 HC0.out ?side3 ?side4 A43.out).mono ?_); (case side1 => exact cb_ HR0.out HB.out); (case side3 => repeat (first | exact (Kd.R_reads' HO_6.out).2.2 | (with_reducible refine Kd.C_alloc ?_ _) | (with_reducible refine Kd.C_drewN ?_ _) | (with_reducible refine Kd.C_drew ?_))); (case side4 => exact (Kd.R_reads' HO_6.out).2.1); rintro e w' ⟨rfl, ⟨nd, rfl⟩⟩; refine ⟨_, rfl, ?_⟩; (try (rw [drewN_self wr]; generalize hq_ : World.drewN wr _ = wr; have n0_ : Aside0 (Kd.R (Kd.int .i64) 3 wr w.heap.size (fun k_ => some k_ ≠ (.slice Ao49 x6_3.length co49 : Value).ownBlock) (.slice Ao12 x4_1.length co12) x4_1) := ⟨by rw [← hq_]; exact (ra_ HO_4.out)⟩; have n1_ : Aside0 (Kd.R (Kd.int .i64) 3 wr w.heap.size (fun k_ => some k_ ≠ (.slice Ao12 x4_1.length co12 : Value).ownBlock) (.slice Ao49 x6_3.length co49) x6_3) := ⟨by rw [← hq_]; exact (ra_ HO_6.out)⟩; have n2_ : Aside0 (Below w.heap.size w wr) := ⟨by rw [← hq_]; exact (by repeat (first | (with_reducible first | exact HB.out | apply below_alloc | apply pw_below_drewN | apply below_drew1) | exact HB.out))⟩; clear HO_4 HO_6 HB hq_; have HO_4 := n0_; have HO_6 := n1_; have HB := n2_; clear n0_ n1_ n2_)); have p48 : 0 ≤ (t492 : Int) := of_decide_eq_true dg_; have q48 : (t492 : Int) < ((x4_1.length : Int) : Int) := of_decide_eq_true dg_; obtain ⟨go48, co48, eo48, gb48, gl48, cl48, HG48⟩ := Kd.R_form HO_4.out (by omega); (first | cases eo48 | (injection eo48 with ea_ en_ ec_; (first | subst ea_ | (injection ea_ with ea_; subst ea_)); subst ec_; clear en_)); have GB48 := Aside0.mk gb48; have GG48 := Aside0.mk HG48; clear gb48 gl48 HG48; obtain ⟨hx48_0, hf48_0⟩ := Kd.R_celln 0 HO_4.out (t492 : Int) p48 q48; replace p48 := eq_true p48; replace q48 := eq_true q48; obtain ⟨hy50_, hz50_⟩ := Kd.R_celln 0 HO_4.out (t492 : Int) (of_decide_eq_true dg_) (of_decide_eq_true dg_); have HP50 := Kd.R_putg HO_4.out (t492 : Int) x17_1) | ((with_reducible refine gate_store (t := 3) (p := 68) rfl ?_); refine store_event (t := 3) (p := 68) (v := ?vo_w51) (w1 := (wr.setCell ⟨go48, (t492 : Int).toNat, none⟩ (.int .i64 x17_1))) ?hg ?ho ?hn ?hr ?_; (case ho => rfl); (case hg => rfl); (case hn => rfl); (case hr => first | (go_simp; done) | (go_simp; rfl)); intro w51 hw; have hg : wr.grownBy w51 (some go48) := (by rw [hw]; exact HP50.2); have hp_ : Kd.R (Kd.int .i64) 3 w51 w.heap.size (fun k_ => some k_ ≠ (.slice Ao49 x6_3.length co49 : Value).ownBlock) (.slice (some ⟨go48, 0, none⟩) x4_1.length co12) y493 := (by rw [hw, Ny493.out]; exact HP50.1); clear HP50; replace HO_4 := Aside0.mk (hp_); replace HO_6 := Aside0.mk (Kd.R_after (v := (.slice (some ⟨go48, 0, none⟩) x4_1.length co12)) (v1 := (.slice (some ⟨go48, 0, none⟩) x4_1.length co12)) (ok := (fun _ => True)) (by (with_reducible repeat (first | apply Kd.R_alloc | apply Kd.R_drewN | apply Kd.R_drew)); exact Kd.R_mono HO_6.out (fun _ hk => ⟨trivial, hk⟩)) hg (.inl rfl)); replace HB := Aside0.mk ((by rw [hw]; exact below_set (HB.out) GB48.out : Below w.heap.size w w51)); clear hg hw hp_))
   go_roundg k3
   case measure => have := HK1.out; have := HK2.out; have := HK3.out; omega
   case rel => exact ⟨(y493), (wrap64 (x17_1 + 1)), ef_, H', ⟨by have := HK1.out; have := HK2.out; have := HK3.out; omega⟩, ⟨by (with_reducible repeat (first | apply Kd.R_alloc | apply Kd.R_drewN | apply Kd.R_drew)); exact Kd.R_mono HO_4.out (fun _ hk => trivial)⟩, ⟨bb_ HB.out⟩⟩
  rw [if_pos c22] at H
  have c22b0 : decide (x37_3 < (l0.length : Int)) = true := decide_eq_true c22
  clear c22
  by_cases c23 : 0 ≤ x37_3
  rotate_left
  ·rw [if_neg c23] at H
   exact absurd H (by simp)
  rw [if_pos c23] at H
  have c23b0 : decide (0 ≤ x37_3) = true := decide_eq_true c23
  clear c23
  by_cases c24 : x37_3 < (l0.length : Int)
  rotate_left
  ·rw [if_neg c24] at H
   exact absurd H (by simp)
  rw [if_pos c24] at H
  have c24b0 : decide (x37_3 < (l0.length : Int)) = true := decide_eq_true c24
  clear c24
  by_cases c25 : 0 ≤ ((rd_T94 l0 x37_3).f0)
  rotate_left
  ·rw [if_neg c25] at H
   exact absurd H (by simp)
  rw [if_pos c25] at H
  have c25b0 : decide (0 ≤ ((rd_T94 l0 x37_3).f0)) = true := decide_eq_true c25
  clear c25
  by_cases c26 : ((rd_T94 l0 x37_3).f0) < (x4_1.length : Int)
  rotate_left
  ·rw [if_neg c26] at H
   exact absurd H (by simp)
  rw [if_pos c26] at H
  have c26b0 : decide (((rd_T94 l0 x37_3).f0) < (x4_1.length : Int)) = true := decide_eq_true c26
  clear c26
  by_cases c27 : (rd x4_1 ((rd_T94 l0 x37_3).f0)) < 0
  rotate_left
  ·rw [if_neg c27] at H
   have c27b0 : decide ((rd x4_1 ((rd_T94 l0 x37_3).f0)) < 0) = false := decide_eq_false c27
   clear c27
   have H' := Aside0.mk H
   clear H
   have p487 : 0 ≤ (x37_3 : Int) := of_decide_eq_true dg_
   have q487 : x37_3 < (l0.length : Int) := of_decide_eq_true dg_
   obtain ⟨ad487, e487, hx487_0, hx487_1⟩ := at_T94 HR0.out x37_3 p487 q487
   cases e487
   replace hx487_0 := (HB.out.cell (World.block_lt_of_cell? w _ hx487_0)).trans hx487_0
   replace hx487_1 := (HB.out.cell (World.block_lt_of_cell? w _ hx487_1)).trans hx487_1
   replace p487 := eq_true p487
   replace q487 := eq_true q487
   exact impl_OrderOf.e0
  rw [if_pos c27] at H
  have c27b0 : decide ((rd x4_1 ((rd_T94 l0 x37_3).f0)) < 0) = true := decide_eq_true c27
  clear c27
  by_cases c28 : 0 ≤ ((rd_T94 l0 x37_3).f1)
  rotate_left
  ·rw [if_neg c28] at H
   exact absurd H (by simp)
  rw [if_pos c28] at H
  have c28b0 : decide (0 ≤ ((rd_T94 l0 x37_3).f1)) = true := decide_eq_true c28
  clear c28
  by_cases c29 : ((rd_T94 l0 x37_3).f1) < (x4_1.length : Int)
  rotate_left
  ·rw [if_neg c29] at H
   exact absurd H (by simp)
  rw [if_pos c29] at H
  have c29b0 : decide (((rd_T94 l0 x37_3).f1) < (x4_1.length : Int)) = true := decide_eq_true c29
  clear c29
  by_cases c30 : (rd x4_1 ((rd_T94 l0 x37_3).f1)) < 0
  rotate_left
  ·rw [if_neg c30] at H
   have c30b0 : decide ((rd x4_1 ((rd_T94 l0 x37_3).f1)) < 0) = false := decide_eq_false c30
   clear c30
   have H' := Aside0.mk H
   clear H
   have p487 : 0 ≤ (x37_3 : Int) := of_decide_eq_true dg_
   have q487 : x37_3 < (l0.length : Int) := of_decide_eq_true dg_
   obtain ⟨ad487, e487, hx487_0, hx487_1⟩ := at_T94 HR0.out x37_3 p487 q487
   cases e487
   replace hx487_0 := (HB.out.cell (World.block_lt_of_cell? w _ hx487_0)).trans hx487_0
   replace hx487_1 := (HB.out.cell (World.block_lt_of_cell? w _ hx487_1)).trans hx487_1
   replace p487 := eq_true p487
   replace q487 := eq_true q487
   exact impl_OrderOf.e0
  rw [if_pos c30] at H
  have c30b0 : decide ((rd x4_1 ((rd_T94 l0 x37_3).f1)) < 0) = true := decide_eq_true c30
  clear c30
  by_cases c31 : ((rd_T94 l0 x37_3).f1) < (x6_3.length : Int)
  rotate_left
  ·rw [if_neg c31] at H
   exact absurd H (by simp)
  rw [if_pos c31] at H
  have c31b0 : decide (((rd_T94 l0 x37_3).f1) < (x6_3.length : Int)) = true := decide_eq_true c31
  clear c31
  obtain ⟨y491, hy491⟩ : ∃ y_ : List Int, y_ = (x6_3.set (((rd_T94 l0 x37_3).f1) : Int).toNat (-1)) := ⟨_, rfl⟩
  replace H : (impl_OrderOf.l2 k3 l0 x4_1 x17_1 y491 x17_1 l0 (l0.length : Int) (wrap64 (x37_3 + 1))) = some (r1, r2) := by first | (rw [hy491]; with_reducible exact H) | (have H2_ := (Option.bind_some _ _).symm.trans H; rw [hy491]; with_reducible exact H2_) | (have H2_ := (Option.bind_some _ _).symm.trans H; with_reducible exact H2_) | with_reducible exact H | (rw [hy491]; exact H) | exact H
  have Ny491 := Aside0.mk hy491
  clear hy491
  have H' := Aside0.mk H
  clear H
  have p487 : 0 ≤ (x37_3 : Int) := of_decide_eq_true dg_
  have q487 : x37_3 < (l0.length : Int) := of_decide_eq_true dg_
  obtain ⟨ad487, e487, hx487_0, hx487_1⟩ := at_T94 HR0.out x37_3 p487 q487
  cases e487
  replace hx487_0 := (HB.out.cell (World.block_lt_of_cell? w _ hx487_0)).trans hx487_0
  replace hx487_1 := (HB.out.cell (World.block_lt_of_cell? w _ hx487_1)).trans hx487_1
  replace p487 := eq_true p487
  replace q487 := eq_true q487
  go_wp2_with (first | ((with_reducible refine gate_dst (N := 10) rfl ?_); refine box_event ?hg (N := 10) ?hd (cs := #[.int .i64 0, .int .i64 0]) (t := 94) ?hr ?_; (case hd => rfl); (case hg => rfl); (case hr => first | (go_simp; done) | (go_simp; rfl)); intro gb488 hg w33 hbox hb; replace HO_4 := Aside0.mk (Kd.R_below (ra_ HO_4.out) hb); replace HO_6 := Aside0.mk (Kd.R_below (ra_ HO_6.out) hb); have BK488 := Aside0.mk (hbox); have GW488 := Aside0.mk ((by rw [hg]; exact (bz_ HB.out) : w.heap.size ≤ gb488)); have GE488 := Aside0.mk ((by rw [hg]; exact (bz_ HB.out) : w.heap.size ≤ gb488)); replace HB := Aside0.mk (bs_ HB.out hb); clear hb hbox hg; obtain ⟨hcz34_0, hcz34_1, hfz34_0, hfz34_1⟩ := cz2_ BK488.out) | ((with_reducible refine gate_store (t := 94) (p := 10) rfl ?_); refine store_event (t := 94) (p := 10) (v := ?vo_w35) (w1 := ((w33.setCell ⟨gb488, 0, none⟩ (.int .i64 ((rd_T94 l0 x37_3).f0))).setCell ⟨gb488, 1, none⟩ (.int .i64 ((rd_T94 l0 x37_3).f1)))) ?hg ?ho ?hn ?hr ?_; (case ho => rfl); (case hg => rfl); (case hn => rfl); (case hr => first | (go_simp; done) | (go_simp; rfl)); intro w35 hw; have n0_ : Aside0 (Kd.R (Kd.int .i64) 3 w35 w.heap.size (fun k_ => some k_ ≠ (v483 : Value).ownBlock) (.slice Ao12 x4_1.length co12) x4_1) := ⟨(by rw [hw]; exact (rm_ (Kd.R_types HO_4.out BK488.out (by decide)) (fun _ hk => hk.1)))⟩; have n1_ : Aside0 (Kd.R (Kd.int .i64) 3 w35 w.heap.size (fun k_ => some k_ ≠ (.slice Ao12 x4_1.length co12 : Value).ownBlock) v483 x6_3) := ⟨(by rw [hw]; exact (rm_ (Kd.R_types HO_6.out BK488.out (by decide)) (fun _ hk => hk.1)))⟩; have n2_ : Aside0 (w35.heap[gb488]? = some (.cells #[.int .i64 ((rd_T94 l0 x37_3).f0), .int .i64 ((rd_T94 l0 x37_3).f1)] 94 (0, 0))) := ⟨(by rw [hw]; exact (by (with_reducible repeat (first | refine blk_drewN ?_ _ | refine blk_drew ?_ | refine blk_alloc ?_ _)); refine blk_put (cs := #[.int .i64 ((rd_T94 l0 x37_3).f0), .int .i64 0]) ?_ 1 _ rfl; (with_reducible repeat (first | refine blk_drewN ?_ _ | refine blk_drew ?_ | refine blk_alloc ?_ _)); refine blk_put (cs := #[.int .i64 0, .int .i64 0]) ?_ 0 _ rfl; (with_reducible repeat (first | refine blk_drewN ?_ _ | refine blk_drew ?_ | refine blk_alloc ?_ _)); exact BK488.out))⟩; have n3_ : Aside0 (Below w.heap.size w w35) := ⟨(by rw [hw]; exact (by repeat (first | (with_reducible first | exact HB.out | apply below_alloc | apply pw_below_drewN | apply below_drew1 | refine below_set ?_ GE488.out) | exact HB.out)))⟩; clear hw; clear HO_4; clear HO_6; clear BK488; clear HB; have HO_4 := n0_; have HO_6 := n1_; have BK488 := n2_; have HB := n3_; clear n0_ n1_ n2_ n3_; obtain ⟨hcz36_0, hcz36_1, hfz36_0, hfz36_1⟩ := cz2_ BK488.out; have p489 : 0 ≤ (((rd_T94 l0 x37_3).f0) : Int) := of_decide_eq_true dg_; have q489 : ((rd_T94 l0 x37_3).f0) < (x4_1.length : Int) := of_decide_eq_true dg_; obtain ⟨ad489, e489, hx489_0⟩ := Kd.at_int (Kd.R_reads' HO_4.out).2.2 ((rd_T94 l0 x37_3).f0) p489 q489; cases e489; replace p489 := eq_true p489; replace q489 := eq_true q489; have p490 : 0 ≤ (((rd_T94 l0 x37_3).f1) : Int) := of_decide_eq_true dg_; have q490 : ((rd_T94 l0 x37_3).f1) < (x4_1.length : Int) := of_decide_eq_true dg_; obtain ⟨ad490, e490, hx490_0⟩ := Kd.at_int (Kd.R_reads' HO_4.out).2.2 ((rd_T94 l0 x37_3).f1) p490 q490; obtain rfl : ad489 = ad490 := (by injection e490); replace p490 := eq_true p490; replace q490 := eq_true q490; have p32 : 0 ≤ (((rd_T94 l0 x37_3).f1) : Int) := of_decide_eq_true dg_; have q32 : (((rd_T94 l0 x37_3).f1) : Int) < ((x6_3.length : Int) : Int) := of_decide_eq_true dg_; obtain ⟨go32, co32, eo32, gb32, gl32, cl32, HG32⟩ := Kd.R_form HO_6.out (by omega); (first | cases eo32 | (injection eo32 with ea_ en_ ec_; (first | subst ea_ | (injection ea_ with ea_; subst ea_)); subst ec_; clear en_)); have GB32 := Aside0.mk gb32; have GG32 := Aside0.mk HG32; clear gb32 gl32 HG32; obtain ⟨hx32_0, hf32_0⟩ := Kd.R_celln 0 HO_6.out (((rd_T94 l0 x37_3).f1) : Int) p32 q32; replace p32 := eq_true p32; replace q32 := eq_true q32; obtain ⟨hy37_, hz37_⟩ := Kd.R_celln 0 HO_6.out (((rd_T94 l0 x37_3).f1) : Int) (of_decide_eq_true dg_) (of_decide_eq_true dg_); have HP37 := Kd.R_putg HO_6.out (((rd_T94 l0 x37_3).f1) : Int) (-1)) | ((with_reducible refine gate_store (t := 3) (p := 58) rfl ?_); refine store_event (t := 3) (p := 58) (v := ?vo_w38) (w1 := (w35.setCell ⟨go32, (((rd_T94 l0 x37_3).f1) : Int).toNat, none⟩ (.int .i64 (-1)))) ?hg ?ho ?hn ?hr ?_; (case ho => rfl); (case hg => rfl); (case hn => rfl); (case hr => first | (go_simp; done) | (go_simp; rfl)); intro w38 hw; have hg : w35.grownBy w38 (some go32) := (by rw [hw]; exact HP37.2); have hp_ : Kd.R (Kd.int .i64) 3 w38 w.heap.size (fun k_ => some k_ ≠ (.slice (some ad489) x4_1.length co12 : Value).ownBlock) (.slice (some ⟨go32, 0, none⟩) x6_3.length co32) y491 := (by rw [hw, Ny491.out]; exact HP37.1); clear HP37; replace HO_4 := Aside0.mk (Kd.R_after (v := (.slice (some ⟨go32, 0, none⟩) x6_3.length co32)) (v1 := (.slice (some ⟨go32, 0, none⟩) x6_3.length co32)) (ok := (fun _ => True)) (by (with_reducible repeat (first | apply Kd.R_alloc | apply Kd.R_drewN | apply Kd.R_drew)); exact Kd.R_mono HO_4.out (fun _ hk => ⟨trivial, hk⟩)) hg (.inl rfl)); replace BK488 := Aside0.mk (blk_grown (g := gb488) (o := .cells #[.int .i64 ((rd_T94 l0 x37_3).f0), .int .i64 ((rd_T94 l0 x37_3).f1)] 94 (0, 0)) (by (with_reducible repeat (first | refine blk_drewN ?_ _ | refine blk_drew ?_ | refine blk_alloc ?_ _)); exact BK488.out) hg (Kd.R_ne HO_6.out BK488.out (by decide))); replace HO_6 := Aside0.mk (hp_); replace HB := Aside0.mk ((by rw [hw]; exact below_set (HB.out) GB32.out : Below w.heap.size w w38)); clear hg hw hp_))
  go_roundg k3
  case measure => have := HK1.out; have := HK2.out; have := HK3.out; omega
  case rel => exact ⟨(y491), (wrap64 (x37_3 + 1)), ef_, H', ⟨by have := HK1.out; have := HK2.out; have := HK3.out; omega⟩, ⟨by (with_reducible repeat (first | apply Kd.R_alloc | apply Kd.R_drewN | apply Kd.R_drew)); exact Kd.R_mono HO_4.out (fun _ hk => hk.2)⟩, ⟨by (with_reducible repeat (first | apply Kd.R_alloc | apply Kd.R_drewN | apply Kd.R_drew)); exact HO_6.out⟩, ⟨bb_ HB.out⟩⟩
 ·replace c3 := Bool.eq_false_iff.mpr c3
  subst c3
  rw [if_neg (show ¬ (false = true) by decide)] at H
  simp only [Option.some.injEq, Prod.mk.injEq] at H
  obtain ⟨rfl, rfl⟩ := H
  go_enter Try.func120, Try.ntmps120
  go_wp2_with (first | ((with_reducible refine gate_callee (f := 124) rfl ?_); refine gm_ (some 13) Try.func124 #[.slice A0 l0.length c0] rfl ?_; (with_reducible refine (impl_DependsOk.calls k _ _ l0 false _ ?side1 HC0.out A2.out).mono ?_); (case side1 => repeat (first | exact HR0.out | (with_reducible refine Kd.C_alloc ?_ _) | (with_reducible refine Kd.C_drewN ?_ _) | (with_reducible refine Kd.C_drew ?_))); rintro e w52 ⟨rfl, hb⟩; refine ⟨_, rfl, ?_⟩; replace HB := Aside0.mk (bs_ HB.out hb); (try clear hb)))
  go_ret2
  exact ⟨_, fin_, by first | exact Kd.R_nil _ _ _ _ _ | exact Kd.N_nil _ _ _ _ _ | exact Kd.V_nil _ _ _ _ _ | exact Kd.Q_nil _ _ _ _ _ | exact Kd.S_nil _ _ _ _ _, bb_ HB.out⟩

/-! ### impl_judged: function 79 -/
def impl_judged.f (k : Nat) (l0 : List (S94)) : Option (Int × List Int × List Int) := (impl_OrderOf.f k l0).bind fun bt495 => (if bt495.2 = true then (some (1, bt495.1, ([] : List Int))) else ((impl_ShortestCycle.f k l0).bind fun t499 => (some (2, ([] : List Int), t499))))
theorem impl_judged.mono : ∀ a0 k, LeO (impl_judged.f k a0) (impl_judged.f (k + 1) a0) := by
 intro a0 k
 unfold impl_judged.f
 repeat' first
   | (with_reducible exact impl_OrderOf.mono _ _)
   | (with_reducible exact impl_ShortestCycle.mono _ _)
   | (with_reducible exact LeO.refl _)
   | (with_reducible exact LeO.none _)
   | (with_reducible refine LeO.ite ?_ ?_)
   | (with_reducible refine LeO.bind ?_ (fun _ => ?_))
   | exact impl_OrderOf.mono _ _
   | exact impl_ShortestCycle.mono _ _
   | exact LeO.none _
   | refine LeO.ite ?_ ?_
   | refine LeO.bind ?_ (fun _ => ?_)
theorem impl_judged.calls (k : Nat) (A0 : Option Addr) (c0 : Nat) (l0 : List (S94)) (r1 : Int) (r2 : List Int) (r3 : List Int) (w : World) (hr0 : Kd.C k94 w A0 l0.length l0) (hc0 : l0.length ≤ c0) (h : impl_judged.f k l0 = some (r1, r2, r3)) :
  Calls Try.prog 79 #[.slice A0 l0.length c0] w fun e w' => ∃ v1_ v2_ : Value, e = .returned (.agg #[.int .i64 r1, v1_, v2_]) ∧ Kd.R (Kd.int .i64) 3 w' w.heap.size (fun k_ => some k_ ≠ (v2_ : Value).ownBlock) v1_ r2 ∧ Kd.R (Kd.int .i64) 3 w' w.heap.size (fun k_ => some k_ ≠ (v1_ : Value).ownBlock) v2_ r3 ∧ Below w.heap.size w w' := by
 have hu40 := Try.underlying40
 have HR0 := Aside0.mk hr0
 have HC0 := Aside0.mk hc0
 clear hr0 hc0
 have HB := Aside0.mk (Below.refl w.heap.size w)
 have H : ((impl_OrderOf.f k l0).bind fun bt495 => (if bt495.2 = true then (some (1, bt495.1, ([] : List Int))) else ((impl_ShortestCycle.f k l0).bind fun t499 => (some (2, ([] : List Int), t499))))) = some (r1, r2, r3) := h
 clear h
 replace H := Option.bind_eq_some_iff.mp H
 obtain ⟨⟨t495, t496⟩, A20, H⟩ := H
 try dsimp only at H
 have A2 := Aside0.mk A20
 clear A20
 by_cases c3 : t496 = true
 ·subst c3
  rw [if_pos rfl] at H
  simp only [Option.some.injEq, Prod.mk.injEq] at H
  obtain ⟨rfl, rfl, rfl⟩ := H
  go_enter Try.func79, Try.ntmps79
  go_wp2_with (first | ((with_reducible refine gate_dst (N := 2) rfl ?_); refine box_event ?hg (N := 2) ?hd (cs := #[.int .i64 0, .slice none 0 0, .slice none 0 0]) (t := 40) ?hr ?_; (case hd => rfl); (case hg => rfl); (case hr => first | (go_simp; done) | (go_simp; rfl)); intro gb494 hg w4 hbox hb; have BK494 := Aside0.mk (hbox); have GW494 := Aside0.mk ((by rw [hg]; exact (bz_ HB.out) : w.heap.size ≤ gb494)); have GE494 := Aside0.mk ((by rw [hg]; exact (bz_ HB.out) : w.heap.size ≤ gb494)); replace HB := Aside0.mk (bs_ HB.out hb); clear hb hbox hg) | ((with_reducible refine gate_callee (f := 120) rfl ?_); refine gm_ (some 7) Try.func120 #[.slice A0 l0.length c0] rfl ?_; (with_reducible refine (impl_OrderOf.calls k _ _ l0 t495 true _ ?side1 HC0.out A2.out).mono ?_); (case side1 => exact cb_ HR0.out HB.out); rintro e w5 ⟨v497, rfl, ho0, hb⟩; refine ⟨_, rfl, ?_⟩; have HO498 := Aside0.mk (Kd.R_lower ho0 (bz_ HB.out)); replace BK494 := Aside0.mk (bk_ BK494.out hb); replace HB := Aside0.mk (bs_ HB.out hb); (try clear hb); (try clear ho0); obtain ⟨Ao6, co6, eo6⟩ := Kd.R_slice HO498.out; subst eo6; obtain ⟨hcz7_0, hcz7_1, hcz7_2, hfz7_0, hfz7_1, hfz7_2⟩ := cz3_ BK494.out))
  refine bodyPost_ret (results_cell_row rfl _ _ gb494 40 #[.int .i64 1, .slice Ao6 t495.length co6, .slice none 0 0] (0, 0) _ rfl (by (with_reducible repeat (first | refine blk_drewN ?_ _ | refine blk_drew ?_ | refine blk_alloc ?_ _)); refine blk_put (cs := #[.int .i64 1, .slice Ao6 t495.length co6, .slice none 0 0]) ?_ 2 _ rfl; (with_reducible repeat (first | refine blk_drewN ?_ _ | refine blk_drew ?_ | refine blk_alloc ?_ _)); refine blk_put (cs := #[.int .i64 1, .slice none 0 0, .slice none 0 0]) ?_ 1 _ rfl; (with_reducible repeat (first | refine blk_drewN ?_ _ | refine blk_drew ?_ | refine blk_alloc ?_ _)); refine blk_put (cs := #[.int .i64 0, .slice none 0 0, .slice none 0 0]) ?_ 0 _ rfl; (with_reducible repeat (first | refine blk_drewN ?_ _ | refine blk_drew ?_ | refine blk_alloc ?_ _)); exact BK494.out) Try.underlying40 rfl (by kernel_rfl)) rfl ?_
  exact ⟨_, _, fin_, rm_ (Kd.R_types HO498.out BK494.out (by decide)) (fun _ hk => (by simp [Value.ownBlock])), by first | exact Kd.R_nil _ _ _ _ _ | exact Kd.N_nil _ _ _ _ _ | exact Kd.V_nil _ _ _ _ _ | exact Kd.Q_nil _ _ _ _ _ | exact Kd.S_nil _ _ _ _ _, bb_ HB.out⟩
 ·replace c3 := Bool.eq_false_iff.mpr c3
  subst c3
  rw [if_neg (show ¬ (false = true) by decide)] at H
  replace H := Option.bind_eq_some_iff.mp H
  obtain ⟨t499, A80, H⟩ := H
  try dsimp only at H
  have A8 := Aside0.mk A80
  clear A80
  simp only [Option.some.injEq, Prod.mk.injEq] at H
  obtain ⟨rfl, rfl, rfl⟩ := H
  go_enter Try.func79, Try.ntmps79
  go_wp2_with (first | ((with_reducible refine gate_dst (N := 2) rfl ?_); refine box_event ?hg (N := 2) ?hd (cs := #[.int .i64 0, .slice none 0 0, .slice none 0 0]) (t := 40) ?hr ?_; (case hd => rfl); (case hg => rfl); (case hr => first | (go_simp; done) | (go_simp; rfl)); intro gb494 hg w9 hbox hb; have BK494 := Aside0.mk (hbox); have GW494 := Aside0.mk ((by rw [hg]; exact (bz_ HB.out) : w.heap.size ≤ gb494)); have GE494 := Aside0.mk ((by rw [hg]; exact (bz_ HB.out) : w.heap.size ≤ gb494)); replace HB := Aside0.mk (bs_ HB.out hb); clear hb hbox hg) | ((with_reducible refine gate_callee (f := 120) rfl ?_); refine gm_ (some 7) Try.func120 #[.slice A0 l0.length c0] rfl ?_; (with_reducible refine (impl_OrderOf.calls k _ _ l0 t495 false _ ?side1 HC0.out A2.out).mono ?_); (case side1 => exact cb_ HR0.out HB.out); rintro e w10 ⟨v497, rfl, ho0, hb⟩; refine ⟨_, rfl, ?_⟩; have HO498 := Aside0.mk (Kd.R_lower ho0 (bz_ HB.out)); replace BK494 := Aside0.mk (bk_ BK494.out hb); replace HB := Aside0.mk (bs_ HB.out hb); (try clear hb); (try clear ho0)) | ((with_reducible refine gate_callee (f := 107) rfl ?_); refine gm_ (some 14) Try.func107 #[.slice A0 l0.length c0] rfl ?_; (with_reducible refine (impl_ShortestCycle.calls k _ _ l0 t499 _ ?side1 HC0.out A8.out).mono ?_); (case side1 => exact cb_ HR0.out HB.out); rintro e w11 ⟨v500, rfl, ho0, hb⟩; refine ⟨_, rfl, ?_⟩; have HO501 := Aside0.mk (Kd.R_lower (Kd.R_new' ho0 (rl_ HO498.out)) (bz_ HB.out)); replace HO498 := Aside0.mk (Kd.R_elder' (ra_ HO498.out) (Kd.R_base ho0) hb); replace BK494 := Aside0.mk (bk_ BK494.out hb); replace HB := Aside0.mk (bs_ HB.out hb); (try clear hb); (try clear ho0); obtain ⟨Ao12, co12, eo12⟩ := Kd.R_slice HO501.out; subst eo12; obtain ⟨hcz13_0, hcz13_1, hcz13_2, hfz13_0, hfz13_1, hfz13_2⟩ := cz3_ BK494.out))
  refine bodyPost_ret (results_cell_row rfl _ _ gb494 40 #[.int .i64 2, .slice none 0 0, .slice Ao12 t499.length co12] (0, 0) _ rfl (by (with_reducible repeat (first | refine blk_drewN ?_ _ | refine blk_drew ?_ | refine blk_alloc ?_ _)); refine blk_put (cs := #[.int .i64 2, .slice none 0 0, .slice none 0 0]) ?_ 2 _ rfl; (with_reducible repeat (first | refine blk_drewN ?_ _ | refine blk_drew ?_ | refine blk_alloc ?_ _)); refine blk_put (cs := #[.int .i64 2, .slice none 0 0, .slice none 0 0]) ?_ 1 _ rfl; (with_reducible repeat (first | refine blk_drewN ?_ _ | refine blk_drew ?_ | refine blk_alloc ?_ _)); refine blk_put (cs := #[.int .i64 0, .slice none 0 0, .slice none 0 0]) ?_ 0 _ rfl; (with_reducible repeat (first | refine blk_drewN ?_ _ | refine blk_drew ?_ | refine blk_alloc ?_ _)); exact BK494.out) Try.underlying40 rfl (by kernel_rfl)) rfl ?_
  exact ⟨_, _, fin_, by first | exact Kd.R_nil _ _ _ _ _ | exact Kd.N_nil _ _ _ _ _ | exact Kd.V_nil _ _ _ _ _ | exact Kd.Q_nil _ _ _ _ _ | exact Kd.S_nil _ _ _ _ _, rm_ (Kd.R_types HO501.out BK494.out (by decide)) (fun _ hk => (by simp [Value.ownBlock])), bb_ HB.out⟩

/-! ### impl_CheckTable: function 27 -/
def impl_CheckTable.f (k : Nat) (a0_0 : Int) (a0_1 : Int) (l0_2 : List Int) (l1_0 : List Int) : Option (Int × List Int × List Int) := (impl_TableOk.f k a0_0 a0_1 l0_2 l1_0).bind fun t505 => (if t505 = true then ((impl_DependsOf.f k a0_0 a0_1 l0_2 l1_0).bind fun t506 => ((impl_judged.f k t506).bind fun bt509 => (some (bt509.1, bt509.2.1, bt509.2.2)))) else (some (0, ([] : List Int), ([] : List Int))))
theorem impl_CheckTable.mono : ∀ a0 a1 a2 a3 k, LeO (impl_CheckTable.f k a0 a1 a2 a3) (impl_CheckTable.f (k + 1) a0 a1 a2 a3) := by
 intro a0 a1 a2 a3 k
 unfold impl_CheckTable.f
 repeat' first
   | (with_reducible exact impl_DependsOf.mono _ _ _ _ _)
   | (with_reducible exact impl_TableOk.mono _ _ _ _ _)
   | (with_reducible exact impl_judged.mono _ _)
   | (with_reducible exact LeO.refl _)
   | (with_reducible exact LeO.none _)
   | (with_reducible refine LeO.ite ?_ ?_)
   | (with_reducible refine LeO.bind ?_ (fun _ => ?_))
   | exact impl_DependsOf.mono _ _ _ _ _
   | exact impl_TableOk.mono _ _ _ _ _
   | exact impl_judged.mono _ _
   | exact LeO.none _
   | refine LeO.ite ?_ ?_
   | refine LeO.bind ?_ (fun _ => ?_)
theorem impl_CheckTable.calls (k : Nat) (a0_0 : Int) (a0_1 : Int) (A0_2 : Option Addr) (c0_2 : Nat) (l0_2 : List Int) (A1_0 : Option Addr) (c1_0 : Nat) (l1_0 : List Int) (r1 : Int) (r2 : List Int) (r3 : List Int) (w : World) (hr0_2 : Kd.C (Kd.int .i64) w A0_2 l0_2.length l0_2) (hc0_2 : l0_2.length ≤ c0_2) (hr1_0 : Kd.C (Kd.int .i64) w A1_0 l1_0.length l1_0) (hc1_0 : l1_0.length ≤ c1_0) (h : impl_CheckTable.f k a0_0 a0_1 l0_2 l1_0 = some (r1, r2, r3)) :
  Calls Try.prog 27 #[.agg #[.int .i64 a0_0, .int .i64 a0_1, .slice A0_2 l0_2.length c0_2], .agg #[.slice A1_0 l1_0.length c1_0]] w fun e w' => ∃ v1_ v2_ : Value, e = .returned (.agg #[.int .i64 r1, v1_, v2_]) ∧ Kd.R (Kd.int .i64) 3 w' w.heap.size (fun k_ => some k_ ≠ (v2_ : Value).ownBlock) v1_ r2 ∧ Kd.R (Kd.int .i64) 3 w' w.heap.size (fun k_ => some k_ ≠ (v1_ : Value).ownBlock) v2_ r3 ∧ Below w.heap.size w w' := by
 have hu44 := Try.underlying44
 have hu46 := Try.underlying46
 have hu40 := Try.underlying40
 have HR0_2 := Aside0.mk hr0_2
 have HC0_2 := Aside0.mk hc0_2
 clear hr0_2 hc0_2
 have HR1_0 := Aside0.mk hr1_0
 have HC1_0 := Aside0.mk hc1_0
 clear hr1_0 hc1_0
 have HB := Aside0.mk (Below.refl w.heap.size w)
 have H : ((impl_TableOk.f k a0_0 a0_1 l0_2 l1_0).bind fun t505 => (if t505 = true then ((impl_DependsOf.f k a0_0 a0_1 l0_2 l1_0).bind fun t506 => ((impl_judged.f k t506).bind fun bt509 => (some (bt509.1, bt509.2.1, bt509.2.2)))) else (some (0, ([] : List Int), ([] : List Int))))) = some (r1, r2, r3) := h
 clear h
 replace H := Option.bind_eq_some_iff.mp H
 obtain ⟨t505, A30, H⟩ := H
 try dsimp only at H
 have A3 := Aside0.mk A30
 clear A30
 by_cases c4 : t505 = true
 ·subst c4
  rw [if_pos rfl] at H
  replace H := Option.bind_eq_some_iff.mp H
  obtain ⟨t506, A50, H⟩ := H
  try dsimp only at H
  have A5 := Aside0.mk A50
  clear A50
  replace H := Option.bind_eq_some_iff.mp H
  obtain ⟨⟨t509, t510, t513⟩, A60, H⟩ := H
  try dsimp only at H
  have A6 := Aside0.mk A60
  clear A60
  simp only [Option.some.injEq, Prod.mk.injEq] at H
  obtain ⟨rfl, rfl, rfl⟩ := H
  go_enter Try.func27, Try.ntmps27
  go_wp2_with (first | ((with_reducible refine gate_dst (N := 2) rfl ?_); refine box_event ?hg (N := 2) ?hd (cs := #[.int .i64 a0_0, .int .i64 a0_1, .slice A0_2 l0_2.length c0_2]) (t := 44) ?hr ?_; (case hd => rfl); (case hg => rfl); (case hr => first | (go_simp; done) | (go_simp; rfl)); intro gb502 hg w7 hbox hb; have BK502 := Aside0.mk (hbox); have GW502 := Aside0.mk ((by rw [hg]; exact (bz_ HB.out) : w.heap.size ≤ gb502)); have GE502 := Aside0.mk ((by rw [hg]; exact (bz_ HB.out) : w.heap.size ≤ gb502)); replace HB := Aside0.mk (bs_ HB.out hb); clear hb hbox hg) | ((with_reducible refine gate_dst (N := 3) rfl ?_); refine box_event ?hg (N := 3) ?hd (cs := #[.slice A1_0 l1_0.length c1_0]) (t := 46) ?hr ?_; (case hd => rfl); (case hg => rfl); (case hr => first | (go_simp; done) | (go_simp; rfl)); intro gb503 hg w8 hbox hb; have BK503 := Aside0.mk (hbox); have GW503 := Aside0.mk ((by rw [hg]; exact (bz_ HB.out) : w.heap.size ≤ gb503)); have GE503 := Aside0.mk ((by rw [hg]; exact (bz_ HB.out) : w.heap.size ≤ gb503)); replace HB := Aside0.mk (bs_ HB.out hb); have NB502_503 := Aside0.mk ((by rw [hg]; exact Nat.ne_of_lt (bl_ BK502.out) : gb502 ≠ gb503)); have NB503_502 := Aside0.mk ((by rw [hg]; exact Nat.ne_of_gt (bl_ BK502.out) : gb503 ≠ gb502)); replace BK502 := Aside0.mk (bk_ BK502.out hb); clear hb hbox hg) | ((with_reducible refine gate_dst (N := 4) rfl ?_); refine box_event ?hg (N := 4) ?hd (cs := #[.int .i64 0, .slice none 0 0, .slice none 0 0]) (t := 40) ?hr ?_; (case hd => rfl); (case hg => rfl); (case hr => first | (go_simp; done) | (go_simp; rfl)); intro gb504 hg w9 hbox hb; have BK504 := Aside0.mk (hbox); have GW504 := Aside0.mk ((by rw [hg]; exact (bz_ HB.out) : w.heap.size ≤ gb504)); have GE504 := Aside0.mk ((by rw [hg]; exact (bz_ HB.out) : w.heap.size ≤ gb504)); replace HB := Aside0.mk (bs_ HB.out hb); have NB502_504 := Aside0.mk ((by rw [hg]; exact Nat.ne_of_lt (bl_ BK502.out) : gb502 ≠ gb504)); have NB504_502 := Aside0.mk ((by rw [hg]; exact Nat.ne_of_gt (bl_ BK502.out) : gb504 ≠ gb502)); replace BK502 := Aside0.mk (bk_ BK502.out hb); have NB503_504 := Aside0.mk ((by rw [hg]; exact Nat.ne_of_lt (bl_ BK503.out) : gb503 ≠ gb504)); have NB504_503 := Aside0.mk ((by rw [hg]; exact Nat.ne_of_gt (bl_ BK503.out) : gb504 ≠ gb503)); replace BK503 := Aside0.mk (bk_ BK503.out hb); clear hb hbox hg; have hnb10 := NB502_503.out; have hnc10 := NB503_502.out; have hnb11 := NB502_504.out; have hnc11 := NB504_502.out; obtain ⟨hcz12_0, hcz12_1, hcz12_2, hfz12_0, hfz12_1, hfz12_2⟩ := cz3_ BK502.out; have hnb13 := NB503_504.out; have hnc13 := NB504_503.out; obtain ⟨hcz14_0, hfz14_0⟩ := cz1_ BK503.out) | ((with_reducible refine gate_callee (f := 78) rfl ?_); refine gm_ (some 7) Try.func78 #[.agg #[.int .i64 a0_0, .int .i64 a0_1, .slice A0_2 l0_2.length c0_2], .agg #[.slice A1_0 l1_0.length c1_0]] rfl ?_; (with_reducible refine (impl_TableOk.calls k a0_0 a0_1 _ _ l0_2 _ _ l1_0 true _ ?side1 HC0_2.out ?side3 HC1_0.out A3.out).mono ?_); (case side1 => exact cb_ HR0_2.out HB.out); (case side3 => exact cb_ HR1_0.out HB.out); rintro e w15 ⟨rfl, hb⟩; refine ⟨_, rfl, ?_⟩; replace BK502 := Aside0.mk (bk_ BK502.out hb); replace BK503 := Aside0.mk (bk_ BK503.out hb); replace BK504 := Aside0.mk (bk_ BK504.out hb); replace HB := Aside0.mk (bs_ HB.out hb); (try clear hb); obtain ⟨hcz16_0, hcz16_1, hcz16_2, hfz16_0, hfz16_1, hfz16_2⟩ := cz3_ BK502.out; obtain ⟨hcz17_0, hfz17_0⟩ := cz1_ BK503.out) | ((with_reducible refine gate_callee (f := 60) rfl ?_); refine gm_ (some 12) Try.func60 #[.agg #[.int .i64 a0_0, .int .i64 a0_1, .slice A0_2 l0_2.length c0_2], .agg #[.slice A1_0 l1_0.length c1_0]] rfl ?_; (with_reducible refine (impl_DependsOf.calls k a0_0 a0_1 _ _ l0_2 _ _ l1_0 t506 _ ?side1 HC0_2.out ?side3 HC1_0.out A5.out).mono ?_); (case side1 => exact cb_ HR0_2.out HB.out); (case side3 => exact cb_ HR1_0.out HB.out); rintro e w18 ⟨v507, rfl, ho0, hb⟩; refine ⟨_, rfl, ?_⟩; have HO508 := Aside0.mk (Kd.R_lower ho0 (bz_ HB.out)); replace BK502 := Aside0.mk (bk_ BK502.out hb); replace BK503 := Aside0.mk (bk_ BK503.out hb); replace BK504 := Aside0.mk (bk_ BK504.out hb); replace HB := Aside0.mk (bs_ HB.out hb); (try clear hb); (try clear ho0); obtain ⟨Ao19, co19, eo19⟩ := Kd.R_slice HO508.out; subst eo19) | ((with_reducible refine gate_callee (f := 79) rfl ?_); refine gm_ (some 13) Try.func79 #[.slice Ao19 t506.length co19] rfl ?_; (with_reducible refine (impl_judged.calls k _ _ t506 t509 t510 t513 _ ?side1 ?side2 A6.out).mono ?_); (case side1 => repeat (first | exact (Kd.R_reads' HO508.out).2.2 | (with_reducible refine Kd.C_alloc ?_ _) | (with_reducible refine Kd.C_drewN ?_ _) | (with_reducible refine Kd.C_drew ?_))); (case side2 => exact (Kd.R_reads' HO508.out).2.1); rintro e w20 ⟨v511, v514, rfl, ho0, ho1, hb⟩; refine ⟨_, rfl, ?_⟩; replace HO508 := Aside0.mk (Kd.R_below (ra_ HO508.out) hb); have HO512 := Aside0.mk (Kd.R_lower ho0 (bz_ HB.out)); have HO515 := Aside0.mk (Kd.R_lower ho1 (bz_ HB.out)); replace BK502 := Aside0.mk (bk_ BK502.out hb); replace BK503 := Aside0.mk (bk_ BK503.out hb); replace BK504 := Aside0.mk (bk_ BK504.out hb); replace HB := Aside0.mk (bs_ HB.out hb); (try clear hb); (try clear ho0); (try clear ho1); obtain ⟨hcz21_0, hcz21_1, hcz21_2, hfz21_0, hfz21_1, hfz21_2⟩ := cz3_ BK504.out; obtain ⟨Ao22, co22, eo22⟩ := Kd.R_slice HO512.out; subst eo22; obtain ⟨Ao23, co23, eo23⟩ := Kd.R_slice HO515.out; subst eo23))
  refine bodyPost_ret (results_cell_row rfl _ _ gb504 40 #[.int .i64 t509, .slice Ao22 t510.length co22, .slice Ao23 t513.length co23] (0, 0) _ rfl (by (with_reducible repeat (first | refine blk_drewN ?_ _ | refine blk_drew ?_ | refine blk_alloc ?_ _)); refine blk_put (cs := #[.int .i64 t509, .slice Ao22 t510.length co22, .slice none 0 0]) ?_ 2 _ rfl; (with_reducible repeat (first | refine blk_drewN ?_ _ | refine blk_drew ?_ | refine blk_alloc ?_ _)); refine blk_put (cs := #[.int .i64 t509, .slice none 0 0, .slice none 0 0]) ?_ 1 _ rfl; (with_reducible repeat (first | refine blk_drewN ?_ _ | refine blk_drew ?_ | refine blk_alloc ?_ _)); refine blk_put (cs := #[.int .i64 0, .slice none 0 0, .slice none 0 0]) ?_ 0 _ rfl; (with_reducible repeat (first | refine blk_drewN ?_ _ | refine blk_drew ?_ | refine blk_alloc ?_ _)); exact BK504.out) Try.underlying40 rfl (by kernel_rfl)) rfl ?_
  exact ⟨_, _, fin_, rm_ (Kd.R_types HO512.out BK504.out (by decide)) (fun _ hk => hk.1), rm_ (Kd.R_types HO515.out BK504.out (by decide)) (fun _ hk => hk.1), bb_ HB.out⟩
 ·replace c4 := Bool.eq_false_iff.mpr c4
  subst c4
  rw [if_neg (show ¬ (false = true) by decide)] at H
  simp only [Option.some.injEq, Prod.mk.injEq] at H
  obtain ⟨rfl, rfl, rfl⟩ := H
  go_enter Try.func27, Try.ntmps27
  go_wp2_with (first | ((with_reducible refine gate_dst (N := 2) rfl ?_); refine box_event ?hg (N := 2) ?hd (cs := #[.int .i64 a0_0, .int .i64 a0_1, .slice A0_2 l0_2.length c0_2]) (t := 44) ?hr ?_; (case hd => rfl); (case hg => rfl); (case hr => first | (go_simp; done) | (go_simp; rfl)); intro gb502 hg w24 hbox hb; have BK502 := Aside0.mk (hbox); have GW502 := Aside0.mk ((by rw [hg]; exact (bz_ HB.out) : w.heap.size ≤ gb502)); have GE502 := Aside0.mk ((by rw [hg]; exact (bz_ HB.out) : w.heap.size ≤ gb502)); replace HB := Aside0.mk (bs_ HB.out hb); clear hb hbox hg) | ((with_reducible refine gate_dst (N := 3) rfl ?_); refine box_event ?hg (N := 3) ?hd (cs := #[.slice A1_0 l1_0.length c1_0]) (t := 46) ?hr ?_; (case hd => rfl); (case hg => rfl); (case hr => first | (go_simp; done) | (go_simp; rfl)); intro gb503 hg w25 hbox hb; have BK503 := Aside0.mk (hbox); have GW503 := Aside0.mk ((by rw [hg]; exact (bz_ HB.out) : w.heap.size ≤ gb503)); have GE503 := Aside0.mk ((by rw [hg]; exact (bz_ HB.out) : w.heap.size ≤ gb503)); replace HB := Aside0.mk (bs_ HB.out hb); have NB502_503 := Aside0.mk ((by rw [hg]; exact Nat.ne_of_lt (bl_ BK502.out) : gb502 ≠ gb503)); have NB503_502 := Aside0.mk ((by rw [hg]; exact Nat.ne_of_gt (bl_ BK502.out) : gb503 ≠ gb502)); replace BK502 := Aside0.mk (bk_ BK502.out hb); clear hb hbox hg) | ((with_reducible refine gate_dst (N := 4) rfl ?_); refine box_event ?hg (N := 4) ?hd (cs := #[.int .i64 0, .slice none 0 0, .slice none 0 0]) (t := 40) ?hr ?_; (case hd => rfl); (case hg => rfl); (case hr => first | (go_simp; done) | (go_simp; rfl)); intro gb504 hg w26 hbox hb; have BK504 := Aside0.mk (hbox); have GW504 := Aside0.mk ((by rw [hg]; exact (bz_ HB.out) : w.heap.size ≤ gb504)); have GE504 := Aside0.mk ((by rw [hg]; exact (bz_ HB.out) : w.heap.size ≤ gb504)); replace HB := Aside0.mk (bs_ HB.out hb); have NB502_504 := Aside0.mk ((by rw [hg]; exact Nat.ne_of_lt (bl_ BK502.out) : gb502 ≠ gb504)); have NB504_502 := Aside0.mk ((by rw [hg]; exact Nat.ne_of_gt (bl_ BK502.out) : gb504 ≠ gb502)); replace BK502 := Aside0.mk (bk_ BK502.out hb); have NB503_504 := Aside0.mk ((by rw [hg]; exact Nat.ne_of_lt (bl_ BK503.out) : gb503 ≠ gb504)); have NB504_503 := Aside0.mk ((by rw [hg]; exact Nat.ne_of_gt (bl_ BK503.out) : gb504 ≠ gb503)); replace BK503 := Aside0.mk (bk_ BK503.out hb); clear hb hbox hg; have hnb27 := NB502_503.out; have hnc27 := NB503_502.out; have hnb28 := NB502_504.out; have hnc28 := NB504_502.out; obtain ⟨hcz29_0, hcz29_1, hcz29_2, hfz29_0, hfz29_1, hfz29_2⟩ := cz3_ BK502.out; have hnb30 := NB503_504.out; have hnc30 := NB504_503.out; obtain ⟨hcz31_0, hfz31_0⟩ := cz1_ BK503.out) | ((with_reducible refine gate_callee (f := 78) rfl ?_); refine gm_ (some 7) Try.func78 #[.agg #[.int .i64 a0_0, .int .i64 a0_1, .slice A0_2 l0_2.length c0_2], .agg #[.slice A1_0 l1_0.length c1_0]] rfl ?_; (with_reducible refine (impl_TableOk.calls k a0_0 a0_1 _ _ l0_2 _ _ l1_0 false _ ?side1 HC0_2.out ?side3 HC1_0.out A3.out).mono ?_); (case side1 => exact cb_ HR0_2.out HB.out); (case side3 => exact cb_ HR1_0.out HB.out); rintro e w32 ⟨rfl, hb⟩; refine ⟨_, rfl, ?_⟩; replace BK502 := Aside0.mk (bk_ BK502.out hb); replace BK503 := Aside0.mk (bk_ BK503.out hb); replace BK504 := Aside0.mk (bk_ BK504.out hb); replace HB := Aside0.mk (bs_ HB.out hb); (try clear hb); obtain ⟨hcz33_0, hcz33_1, hcz33_2, hfz33_0, hfz33_1, hfz33_2⟩ := cz3_ BK504.out))
  refine bodyPost_ret (results_cell_row rfl _ _ gb504 40 #[.int .i64 0, .slice none 0 0, .slice none 0 0] (0, 0) _ rfl (by (with_reducible repeat (first | refine blk_drewN ?_ _ | refine blk_drew ?_ | refine blk_alloc ?_ _)); refine blk_put (cs := #[.int .i64 0, .slice none 0 0, .slice none 0 0]) ?_ 2 _ rfl; (with_reducible repeat (first | refine blk_drewN ?_ _ | refine blk_drew ?_ | refine blk_alloc ?_ _)); refine blk_put (cs := #[.int .i64 0, .slice none 0 0, .slice none 0 0]) ?_ 1 _ rfl; (with_reducible repeat (first | refine blk_drewN ?_ _ | refine blk_drew ?_ | refine blk_alloc ?_ _)); refine blk_put (cs := #[.int .i64 0, .slice none 0 0, .slice none 0 0]) ?_ 0 _ rfl; (with_reducible repeat (first | refine blk_drewN ?_ _ | refine blk_drew ?_ | refine blk_alloc ?_ _)); exact BK504.out) Try.underlying40 rfl (by kernel_rfl)) rfl ?_
  exact ⟨_, _, fin_, by first | exact Kd.R_nil _ _ _ _ _ | exact Kd.N_nil _ _ _ _ _ | exact Kd.V_nil _ _ _ _ _ | exact Kd.Q_nil _ _ _ _ _ | exact Kd.S_nil _ _ _ _ _, by first | exact Kd.R_nil _ _ _ _ _ | exact Kd.N_nil _ _ _ _ _ | exact Kd.V_nil _ _ _ _ _ | exact Kd.Q_nil _ _ _ _ _ | exact Kd.S_nil _ _ _ _ _, bb_ HB.out⟩

/-! ### impl_along: function 132 -/
def impl_along.f (a0 : Int) (a1 : Int) : Option (Int) := if a0 < a1 then (some 1) else (if a0 > a1 then (some 3) else (some (-1)))
theorem impl_along.e0 {P : Prop} (h : P := by
 go_enter Try.func132, Try.ntmps132
 go_wp2
 go_ret
 exact ⟨by first | rfl | (simp; done) | (simp [*]; done), by repeat (first | exact Drawn0.refl _ | apply Drawn0.step)⟩) : P := h
theorem impl_along.calls (a0 : Int) (a1 : Int) (r : Int) (w : World) (h : impl_along.f a0 a1 = some r) :
  Calls Try.prog 132 #[.int .i64 a0, .int .i64 a1] w fun e w' => e = .returned (.int .i64 r) ∧ Drawn0 w w' := by
 have H : (if a0 < a1 then (some 1) else (if a0 > a1 then (some 3) else (some (-1)))) = some r := h
 clear h
 by_cases c3 : a0 < a1
 ·rw [if_pos c3] at H
  have c3b0 : decide (a0 < a1) = true := decide_eq_true c3
  clear c3
  obtain rfl := Option.some.inj H
  exact impl_along.e0
 ·rw [if_neg c3] at H
  have c3b0 : decide (a0 < a1) = false := decide_eq_false c3
  clear c3
  by_cases c4 : a0 > a1
  ·rw [if_pos c4] at H
   have c4b0 : decide (a1 < a0) = true := decide_eq_true c4
   clear c4
   obtain rfl := Option.some.inj H
   exact impl_along.e0
  ·rw [if_neg c4] at H
   have c4b0 : decide (a1 < a0) = false := decide_eq_false c4
   clear c4
   obtain rfl := Option.some.inj H
   exact impl_along.e0

/-! ### impl_across: function 133 -/
def impl_across.f (a0 : Int) (a1 : Int) : Option (Int) := if a0 < a1 then (some 2) else (if a0 > a1 then (some 0) else (some (-1)))
theorem impl_across.e0 {P : Prop} (h : P := by
 go_enter Try.func133, Try.ntmps133
 go_wp2
 go_ret
 exact ⟨by first | rfl | (simp; done) | (simp [*]; done), by repeat (first | exact Drawn0.refl _ | apply Drawn0.step)⟩) : P := h
theorem impl_across.calls (a0 : Int) (a1 : Int) (r : Int) (w : World) (h : impl_across.f a0 a1 = some r) :
  Calls Try.prog 133 #[.int .i64 a0, .int .i64 a1] w fun e w' => e = .returned (.int .i64 r) ∧ Drawn0 w w' := by
 have H : (if a0 < a1 then (some 2) else (if a0 > a1 then (some 0) else (some (-1)))) = some r := h
 clear h
 by_cases c3 : a0 < a1
 ·rw [if_pos c3] at H
  have c3b0 : decide (a0 < a1) = true := decide_eq_true c3
  clear c3
  obtain rfl := Option.some.inj H
  exact impl_across.e0
 ·rw [if_neg c3] at H
  have c3b0 : decide (a0 < a1) = false := decide_eq_false c3
  clear c3
  by_cases c4 : a0 > a1
  ·rw [if_pos c4] at H
   have c4b0 : decide (a1 < a0) = true := decide_eq_true c4
   clear c4
   obtain rfl := Option.some.inj H
   exact impl_across.e0
  ·rw [if_neg c4] at H
   have c4b0 : decide (a1 < a0) = false := decide_eq_false c4
   clear c4
   obtain rfl := Option.some.inj H
   exact impl_across.e0

end Go.Proofs.Ytimdefbpoddoaaa.PFnExactSafeRules
-- thin
