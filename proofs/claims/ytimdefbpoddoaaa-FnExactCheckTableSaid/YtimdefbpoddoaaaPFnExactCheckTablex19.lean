/- The law's functions as plain functions, and their calls. No condition. -/
import Derived.Test.YtimdefbpoddoaaaPFnExactCheckTablex0
import Derived.Test.YtimdefbpoddoaaaPFnExactCheckTablex14
import Derived.Test.YtimdefbpoddoaaaPFnExactCheckTablex15
import Derived.Test.YtimdefbpoddoaaaPFnExactCheckTablex16
import Derived.Test.YtimdefbpoddoaaaPFnExactCheckTablex18
namespace Go.Proofs.Ytimdefbpoddoaaa.PFnExactCheckTable
open Go.RowKit Go.Proofs.YtimdefbpoddoaaaW.PrintWords Go.Proofs.YtimdefbpoddoaaaW.PrintLast Go.Proofs.YtimdefbpoddoaaaW.PrintMore
attribute [local go_sem] max2_int min2_int max_two min_two max_three min_three max_four min_four
set_option linter.unusedVariables false
set_option maxHeartbeats 8000000
set_option maxRecDepth 100000
set_option linter.unusedSimpArgs false

/-! ### impl_OrderOf: function 120 -/
mutual
def impl_OrderOf.l0 : Nat → List (S94) → List Int → Int → Option (List Int × Bool)
 | 0, _, _, _ => none
 | k + 1, x0, x4, x17 => if x17 < 128 then ((slices_Clone_int_int.f x4).bind fun t476 => (impl_OrderOf.l1 k x0 x4 x17 t476 x17 x4 (x4.length : Int) 0)) else (some (x4, true))
def impl_OrderOf.l1 : Nat → List (S94) → List Int → Int → List Int → Int → List Int → Int → Int → Option (List Int × Bool)
 | 0, _, _, _, _, _, _, _, _ => none
 | k + 1, x0, x4, x5, x6, x17, x22, x23, x24 => if x24 < x23 then (if 0 ≤ x24 then (if x24 < (x22.length : Int) then (if (rd x22 x24) < 0 then (if x24 < (x6.length : Int) then (impl_OrderOf.l1 k x0 x4 x5 (x6.set (x24 : Int).toNat (-2)) x17 x22 x23 (wrap64 (x24 + 1))) else (none)) else (impl_OrderOf.l1 k x0 x4 x5 x6 x17 x22 x23 (wrap64 (x24 + 1)))) else (none)) else (none)) else (impl_OrderOf.l2 k x0 x4 x5 x6 x17 x0 (x0.length : Int) 0)
def impl_OrderOf.l2 : Nat → List (S94) → List Int → Int → List Int → Int → List (S94) → Int → Int → Option (List Int × Bool)
 | 0, _, _, _, _, _, _, _, _ => none
 | k + 1, x0, x4, x5, x6, x17, x35, x36, x37 => if x37 < x36 then (if 0 ≤ x37 then (if x37 < (x35.length : Int) then (if 0 ≤ ((rd_T94 x35 x37).f0) then (if ((rd_T94 x35 x37).f0) < (x4.length : Int) then (if (rd x4 ((rd_T94 x35 x37).f0)) < 0 then (if 0 ≤ ((rd_T94 x35 x37).f1) then (if ((rd_T94 x35 x37).f1) < (x4.length : Int) then (if (rd x4 ((rd_T94 x35 x37).f1)) < 0 then (if ((rd_T94 x35 x37).f1) < (x6.length : Int) then (impl_OrderOf.l2 k x0 x4 x5 (x6.set (((rd_T94 x35 x37).f1) : Int).toNat (-1)) x17 x35 x36 (wrap64 (x37 + 1))) else (none)) else (impl_OrderOf.l2 k x0 x4 x5 x6 x17 x35 x36 (wrap64 (x37 + 1)))) else (none)) else (none)) else (impl_OrderOf.l2 k x0 x4 x5 x6 x17 x35 x36 (wrap64 (x37 + 1)))) else (none)) else (none)) else (none)) else (none)) else ((impl_nextRanked.f k x0 x6).bind fun t486 => (if t486 < 0 then (some (([] : List Int), false)) else (if 0 ≤ t486 then (if t486 < (x4.length : Int) then (impl_OrderOf.l0 k x0 (x4.set (t486 : Int).toNat x5) (wrap64 (x17 + 1))) else (none)) else (none))))
end
def impl_OrderOf.f (k : Nat) (l0 : List (S94)) : Option (List Int × Bool) := (impl_DependsOk.f k l0).bind fun t469 => (if t469 = true then ((slices_Repeat_int_int.f (([(-1)] : List Int)) 128).bind fun t473 => (impl_OrderOf.l0 k l0 t473 0)) else (some (([] : List Int), false)))
theorem impl_OrderOf.mono_l : ∀ k, (∀ y0 y1 y2, LeO (impl_OrderOf.l0 k y0 y1 y2) (impl_OrderOf.l0 (k + 1) y0 y1 y2)) ∧ (∀ y0 y1 y2 y3 y4 y5 y6 y7, LeO (impl_OrderOf.l1 k y0 y1 y2 y3 y4 y5 y6 y7) (impl_OrderOf.l1 (k + 1) y0 y1 y2 y3 y4 y5 y6 y7)) ∧ (∀ y0 y1 y2 y3 y4 y5 y6 y7, LeO (impl_OrderOf.l2 k y0 y1 y2 y3 y4 y5 y6 y7) (impl_OrderOf.l2 (k + 1) y0 y1 y2 y3 y4 y5 y6 y7))
 | 0 => ⟨fun _ _ _ r h => by simp [impl_OrderOf.l0] at h, fun _ _ _ _ _ _ _ _ r h => by simp [impl_OrderOf.l1] at h, fun _ _ _ _ _ _ _ _ r h => by simp [impl_OrderOf.l2] at h⟩
 | k + 1 => by
  obtain ⟨ih0, ih1, ih2⟩ := impl_OrderOf.mono_l k
  refine ⟨?_, ?_, ?_⟩
  ·intro y0 y1 y2
   unfold impl_OrderOf.l0
   repeat' (with_reducible first | exact ih0 .. | exact ih1 .. | exact ih2 .. | exact impl_DependsOk.mono .. | exact impl_nextRanked.mono .. | exact LeO.refl .. | exact LeO.none .. | refine LeO.ite ?_ ?_ | refine LeO.bind ?_ (fun _ => ?_))
  ·intro y0 y1 y2 y3 y4 y5 y6 y7
   unfold impl_OrderOf.l1
   repeat' (with_reducible first | exact ih0 .. | exact ih1 .. | exact ih2 .. | exact impl_DependsOk.mono .. | exact impl_nextRanked.mono .. | exact LeO.refl .. | exact LeO.none .. | refine LeO.ite ?_ ?_ | refine LeO.bind ?_ (fun _ => ?_))
  ·intro y0 y1 y2 y3 y4 y5 y6 y7
   unfold impl_OrderOf.l2
   repeat' (with_reducible first | exact ih0 .. | exact ih1 .. | exact ih2 .. | exact impl_DependsOk.mono .. | exact impl_nextRanked.mono .. | exact LeO.refl .. | exact LeO.none .. | refine LeO.ite ?_ ?_ | refine LeO.bind ?_ (fun _ => ?_))
theorem impl_OrderOf.mono : ∀ a0 k, LeO (impl_OrderOf.f k a0) (impl_OrderOf.f (k + 1) a0) := by
 intro a0 k
 obtain ⟨ih0, ih1, ih2⟩ := impl_OrderOf.mono_l k
 unfold impl_OrderOf.f
 repeat' (with_reducible first | exact ih0 .. | exact ih1 .. | exact ih2 .. | exact impl_DependsOk.mono .. | exact impl_nextRanked.mono .. | exact LeO.refl .. | exact LeO.none .. | refine LeO.ite ?_ ?_ | refine LeO.bind ?_ (fun _ => ?_))
theorem impl_OrderOf.e0 {P : Prop} (h : P := by
 go_wp2_with (first | ((with_reducible refine gate_dst (N := 10) rfl ?_); refine box_event ?hg (N := 10) ?hd (cs := #[.int .i64 0, .int .i64 0]) (t := 94) ?hr ?_; (case hd => rfl); (case hg => rfl); (case hr => first | (go_simp; done) | (go_simp; rfl)); intro gb482 hg w_0 hbox hb; replace HO_4 := rb_ HO_4 hb; replace HO_6 := rb_ HO_6 hb; have BK482 := Aside0.mk (hbox); have GW482 := gw_ hg HB; replace HB := hs_ HB hb; clear hb hbox hg; obtain ⟨hcz_0, hcz_1, hfz_0, hfz_1⟩ := cz2_ BK482.out; have p483 : 0 ≤ (((rd_T94 l0 x37_3).f0) : Int) := of_decide_eq_true dg_; have q483 : ((rd_T94 l0 x37_3).f0) < (x4_1.length : Int) := of_decide_eq_true dg_; obtain ⟨ad483, e483, hx483_0⟩ := Kd.at_int (Kd.R_reads' HO_4.out).2.2 ((rd_T94 l0 x37_3).f0) p483 q483; cases e483; have hn483_0 : ad483.block ≠ gb482 := Kd.own_blk (Kd.R_ne HO_4.out BK482.out (by decide)); have hn483_1 : ad483.block ≠ gb482 := Kd.own_blk (Kd.R_ne HO_4.out BK482.out (by decide)); replace hx483_0 := (cell_far (p := ⟨gb482, 0, none⟩) (by first | (rw [add_block]; exact hn483_0) | (show (Addr.add _ _).block ≠ _; rw [add_block]; exact hn483_0) | exact hn483_0) (.int .i64 ((rd_T94 l0 x37_3).f0))).trans hx483_0; replace hx483_0 := (cell_far (p := ⟨gb482, 1, none⟩) (by first | (rw [add_block]; exact hn483_1) | (show (Addr.add _ _).block ≠ _; rw [add_block]; exact hn483_1) | exact hn483_1) (.int .i64 ((rd_T94 l0 x37_3).f1))).trans hx483_0; clear hn483_0; clear hn483_1; replace p483 := eq_true p483; replace q483 := eq_true q483; have p484 : 0 ≤ (((rd_T94 l0 x37_3).f1) : Int) := of_decide_eq_true dg_; have q484 : ((rd_T94 l0 x37_3).f1) < (x4_1.length : Int) := of_decide_eq_true dg_; obtain ⟨ad484, e484, hx484_0⟩ := Kd.at_int (Kd.R_reads' HO_4.out).2.2 ((rd_T94 l0 x37_3).f1) p484 q484; obtain rfl : ad483 = ad484 := (by injection e484); have hn484_0 : ad483.block ≠ gb482 := Kd.own_blk (Kd.R_ne HO_4.out BK482.out (by decide)); have hn484_1 : ad483.block ≠ gb482 := Kd.own_blk (Kd.R_ne HO_4.out BK482.out (by decide)); replace hx484_0 := (cell_far (p := ⟨gb482, 0, none⟩) (by first | (rw [add_block]; exact hn484_0) | (show (Addr.add _ _).block ≠ _; rw [add_block]; exact hn484_0) | exact hn484_0) (.int .i64 ((rd_T94 l0 x37_3).f0))).trans hx484_0; replace hx484_0 := (cell_far (p := ⟨gb482, 1, none⟩) (by first | (rw [add_block]; exact hn484_1) | (show (Addr.add _ _).block ≠ _; rw [add_block]; exact hn484_1) | exact hn484_1) (.int .i64 ((rd_T94 l0 x37_3).f1))).trans hx484_0; clear hn484_0; clear hn484_1; replace p484 := eq_true p484; replace q484 := eq_true q484) | ((with_reducible refine gate_dst (N := 10) rfl ?_); refine box_event ?hg (N := 10) ?hd (cs := #[.int .i64 0, .int .i64 0]) (t := 94) ?hr ?_; (case hd => rfl); (case hg => rfl); (case hr => first | (go_simp; done) | (go_simp; rfl)); intro gb482 hg w_0 hbox hb; replace HO_4 := rb_ HO_4 hb; replace HO_6 := rb_ HO_6 hb; have BK482 := Aside0.mk (hbox); have GW482 := gw_ hg HB; replace HB := hs_ HB hb; clear hb hbox hg; obtain ⟨hcz_0, hcz_1, hfz_0, hfz_1⟩ := cz2_ BK482.out; have p483 : 0 ≤ (((rd_T94 l0 x37_3).f0) : Int) := of_decide_eq_true dg_; have q483 : ((rd_T94 l0 x37_3).f0) < (x4_1.length : Int) := of_decide_eq_true dg_; obtain ⟨ad483, e483, hx483_0⟩ := Kd.at_int (Kd.R_reads' HO_4.out).2.2 ((rd_T94 l0 x37_3).f0) p483 q483; cases e483; have hn483_0 : ad483.block ≠ gb482 := Kd.own_blk (Kd.R_ne HO_4.out BK482.out (by decide)); have hn483_1 : ad483.block ≠ gb482 := Kd.own_blk (Kd.R_ne HO_4.out BK482.out (by decide)); replace hx483_0 := (cell_far (p := ⟨gb482, 0, none⟩) (by first | (rw [add_block]; exact hn483_0) | (show (Addr.add _ _).block ≠ _; rw [add_block]; exact hn483_0) | exact hn483_0) (.int .i64 ((rd_T94 l0 x37_3).f0))).trans hx483_0; replace hx483_0 := (cell_far (p := ⟨gb482, 1, none⟩) (by first | (rw [add_block]; exact hn483_1) | (show (Addr.add _ _).block ≠ _; rw [add_block]; exact hn483_1) | exact hn483_1) (.int .i64 ((rd_T94 l0 x37_3).f1))).trans hx483_0; clear hn483_0; clear hn483_1; replace p483 := eq_true p483; replace q483 := eq_true q483))
 go_roundg k3
 case measure => have := HK1.out; have := HK2.out; have := HK3.out; omega
 case rel => exact ⟨(x6_3), (wrap64 (x37_3 + 1)), ef_, H', ⟨by have := HK1.out; have := HK2.out; have := HK3.out; omega⟩, ⟨rm_ (Kd.R_types HO_4.out BK482.out (by decide)) (fun _ hk => hk.1)⟩, ⟨rm_ (Kd.R_types HO_6.out BK482.out (by decide)) (fun _ hk => hk.1)⟩, ⟨bb_ HB.out⟩⟩) : P := h
theorem impl_OrderOf.calls (k : Nat) (A0 : Option Addr) (c0 : Nat) (l0 : List (S94)) (r1 : List Int) (r2 : Bool) (w : World) (hr0 : Kd.C k94 w A0 l0.length l0) (hc0 : l0.length ≤ c0) (h : impl_OrderOf.f k l0 = some (r1, r2)) :
  Calls Try.prog 120 #[.slice A0 l0.length c0] w fun e w' => ∃ v0_ : Value, e = .returned (.tuple #[v0_, .bool r2]) ∧ Kd.R (Kd.int .i64) 3 w' w.heap.size (fun _ => True) v0_ r1 ∧ Below w.heap.size w w' := by
 have hu94 := Try.underlying94
 have HR0 := Aside0.mk hr0
 have HC0 := Aside0.mk hc0
 clear hr0 hc0
 have HB := Aside0.mk (Below.refl w.heap.size w)
 have H : ((impl_DependsOk.f k l0).bind fun t469 => (if t469 = true then ((slices_Repeat_int_int.f (([(-1)] : List Int)) 128).bind fun t473 => (impl_OrderOf.l0 k l0 t473 0)) else (some (([] : List Int), false)))) = some (r1, r2) := h
 clear h
 obtain ⟨t469, A2, H⟩ := bi_ H
 by_cases c3 : t469 = true
 ·subst c3
  rw [if_pos rfl] at H
  obtain ⟨y470, hy470⟩ : ∃ y_ : List Int, y_ = (([(-1)] : List Int)) := ⟨_, rfl⟩
  replace H : ((slices_Repeat_int_int.f y470 128).bind fun t473 => (impl_OrderOf.l0 k l0 t473 0)) = some (r1, r2) := by first | (rw [hy470]; with_reducible exact H) | (have H2_ := (Option.bind_some _ _).symm.trans H; rw [hy470]; with_reducible exact H2_) | (have H2_ := (Option.bind_some _ _).symm.trans H; with_reducible exact H2_) | with_reducible exact H | (rw [hy470]; exact H) | exact H
  have Ny470 := Aside0.mk hy470
  clear hy470
  obtain ⟨t473, A4, H⟩ := bi_ H
  have H' := Aside0.mk H
  clear H
  go_enter Try.func120, Try.ntmps120
  go_wp2_with (first | ((with_reducible refine gate_callee (f := 124) rfl ?_); refine gm_ (some 13) Try.func124 #[.slice A0 l0.length c0] rfl ?_; (with_reducible refine (impl_DependsOk.calls k _ _ l0 true _ ?side1 HC0.out A2.out).mono ?_); (case side1 => repeat (first | exact HR0.out | (with_reducible refine Kd.C_alloc ?_ _) | (with_reducible refine Kd.C_drewN ?_ _) | (with_reducible refine Kd.C_drew ?_))); rintro e w5 ⟨rfl, hb⟩; refine ⟨_, rfl, ?_⟩; replace HB := hs_ HB hb; (try clear hb)) | ((with_reducible refine gate_dst (N := 15) rfl ?_); refine Kd.R_lit (Kd.int .i64) _ 3 ?hg (N := 15) ?hd (xs := ([(-1)] : List Int)) (inner := [.int .i64 (-1)]) (ok := fun _ => True) (okp := fun _ => True) ?hr ?hp (fun _ hk => hk) trivial (Below.refl _ _) (Nat.le_refl _) (by simp) ?_; (case hd => rfl); (case hg => rfl); (case hr => first | (go_simp; done) | (go_simp; rfl)); (case hp => exact (Reps.one (show Kd.M (Kd.int .i64) _ _ _ (-1) [.int .i64 (-1)] from rfl) (Reps.none _ _))); intro v471 w6 ho7 hb hg_ hnew_; clear hg_ hnew_; (first | rw [← Ny470.out] at ho7 | (simp only [Int.reduceToNat] at ho7; rw [← Ny470.out] at ho7)); have HO472 := Aside0.mk (Kd.R_lower ho7 (bz_ HB.out)); replace HB := hs_ HB hb; clear hb ho7; obtain ⟨Ao8, co8, eo8⟩ := Kd.R_slice HO472.out; subst eo8) | ((with_reducible refine gate_callee (f := 145) rfl ?_); refine gm_ (some 16) Try.func145 #[.slice Ao8 y470.length co8, .int .i64 128] rfl ?_; (with_reducible refine (slices_Repeat_int_int.calls _ _ y470 128 t473 _ ?side1 ?side2 A4.out).mono ?_); (case side1 => exact rr_ HO472); (case side2 => exact (Kd.R_reads' HO472.out).2.1); rintro e w9 ⟨v474, rfl, ho0, hb⟩; refine ⟨_, rfl, ?_⟩; have HO475 := Aside0.mk (Kd.R_lower (Kd.R_new' ho0 (rl_ HO472.out)) (bz_ HB.out)); replace HO472 := re_ HO472 ho0 hb; replace HB := hs_ HB hb; (try clear hb); (try clear ho0)))
  go_loopg [17] k (fun kq v17 w' => ∃ (x4_1 : List Int) (x17_1 : Int), v17 = .int .i64 x17_1 ∧ Aside0 (impl_OrderOf.l0 kq l0 x4_1 x17_1 = some (r1, r2)) ∧ Aside0 (kq ≤ k) ∧ Aside0 (Kd.R (Kd.int .i64) 3 w' w.heap.size (fun _ => True) v474 x4_1) ∧ Aside0 (Below w.heap.size w w'))
  case atStart => exact ⟨(t473), (0), ef_, H', ⟨Nat.le_refl _⟩, ⟨by (with_reducible repeat (first | apply Kd.R_alloc | apply Kd.R_drewN | apply Kd.R_drew)); exact Kd.R_mono HO475.out (fun _ hk => trivial)⟩, ⟨bb_ HB.out⟩⟩
  clear H'
  try clear c3
  obtain ⟨x4_1, x17_1, rfl, HA, HK1, HO_4, HB⟩ := hrel
  obtain _ | k1 := gk
  ·exact absurd HA.out (by simp [impl_OrderOf.l0])
  have H := HA.out
  clear HA
  simp only [impl_OrderOf.l0] at H
  by_cases c10 : x17_1 < 128
  rotate_left
  ·rw [if_neg c10] at H
   have c10b0 : decide (x17_1 < 128) = false := decide_eq_false c10
   clear c10
   simp only [Option.some.injEq, Prod.mk.injEq] at H
   obtain ⟨rfl, rfl⟩ := H
   go_wp2
   go_ret2
   exact ⟨_, fin_, ra_ HO_4.out, bb_ HB.out⟩
  rw [if_pos c10] at H
  have c10b0 : decide (x17_1 < 128) = true := decide_eq_true c10
  clear c10
  obtain ⟨t476, A11, H⟩ := bi_ H
  have H' := Aside0.mk H
  clear H
  obtain ⟨Ao12, co12, eo12⟩ := Kd.R_slice HO_4.out
  subst eo12
  go_wp2_with (first | ((with_reducible refine gate_callee (f := 146) rfl ?_); refine gm_ (some 21) Try.func146 #[.slice Ao12 x4_1.length co12] rfl ?_; (with_reducible refine (slices_Clone_int_int.calls _ _ x4_1 t476 _ ?side1 ?side2 A11.out).mono ?_); (case side1 => exact rr_ HO_4); (case side2 => exact (Kd.R_reads' HO_4.out).2.1); rintro e w13 ⟨v477, rfl, ho0, hb⟩; refine ⟨_, rfl, ?_⟩; have HO478 := Aside0.mk (Kd.R_lower (Kd.R_new' ho0 (rl_ HO_4.out)) (bz_ HB.out)); replace HO_4 := re_ HO_4 ho0 hb; replace HB := hs_ HB hb; (try clear hb); (try clear ho0)))
  go_loopg [24] k1 (fun kq v24 w' => ∃ (x6_2 : List Int) (x24_2 : Int), v24 = .int .i64 x24_2 ∧ Aside0 (impl_OrderOf.l1 kq l0 x4_1 x17_1 x6_2 x17_1 x4_1 (x4_1.length : Int) x24_2 = some (r1, r2)) ∧ Aside0 (kq ≤ k1) ∧ Aside0 (Kd.R (Kd.int .i64) 3 w' w.heap.size (fun k_ => some k_ ≠ (v477 : Value).ownBlock) (.slice Ao12 x4_1.length co12) x4_1) ∧ Aside0 (Kd.R (Kd.int .i64) 3 w' w.heap.size (fun k_ => some k_ ≠ ((.slice Ao12 x4_1.length co12) : Value).ownBlock ∧ some k_ ≠ ((.slice Ao12 x4_1.length co12) : Value).ownBlock) v477 x6_2) ∧ Aside0 (Kd.R (Kd.int .i64) 3 w' w.heap.size (fun k_ => some k_ ≠ (v477 : Value).ownBlock) (.slice Ao12 x4_1.length co12) x4_1) ∧ Aside0 (Below w.heap.size w w'))
  case atStart => exact ⟨(t476), (0), ef_, H', ⟨Nat.le_refl _⟩, ⟨by (with_reducible repeat (first | apply Kd.R_alloc | apply Kd.R_drewN | apply Kd.R_drew)); exact Kd.R_mono HO_4.out (fun _ hk => hk.2)⟩, ⟨by (with_reducible repeat (first | apply Kd.R_alloc | apply Kd.R_drewN | apply Kd.R_drew)); exact Kd.R_mono HO478.out (fun _ hk => ⟨hk.2, hk.2⟩)⟩, ⟨by (with_reducible repeat (first | apply Kd.R_alloc | apply Kd.R_drewN | apply Kd.R_drew)); exact Kd.R_mono HO_4.out (fun _ hk => hk.2)⟩, ⟨bb_ HB.out⟩⟩
  clear H'
  try clear c3
  try clear c10
  try clear c10b0
  obtain ⟨x6_2, x24_2, rfl, HA, HK2, HO_4, HO_6, HO_22, HB⟩ := hrel
  obtain _ | k2 := gk
  ·exact absurd HA.out (by simp [impl_OrderOf.l1])
  have H := HA.out
  clear HA
  simp only [impl_OrderOf.l1] at H
  by_cases c14 : x24_2 < (x4_1.length : Int)
  ·rw [if_pos c14] at H
   have c14b0 : decide (x24_2 < (x4_1.length : Int)) = true := decide_eq_true c14
   clear c14
   by_cases c15 : 0 ≤ x24_2
   rotate_left
   ·rw [if_neg c15] at H
    exact absurd H (by simp)
   rw [if_pos c15] at H
   have c15b0 : decide (0 ≤ x24_2) = true := decide_eq_true c15
   clear c15
   by_cases c16 : x24_2 < (x4_1.length : Int)
   rotate_left
   ·rw [if_neg c16] at H
    exact absurd H (by simp)
   rw [if_pos c16] at H
   have c16b0 : decide (x24_2 < (x4_1.length : Int)) = true := decide_eq_true c16
   clear c16
   by_cases c17 : (rd x4_1 x24_2) < 0
   rotate_left
   ·rw [if_neg c17] at H
    have c17b0 : decide ((rd x4_1 x24_2) < 0) = false := decide_eq_false c17
    clear c17
    have H' := Aside0.mk H
    clear H
    have p479 : 0 ≤ (x24_2 : Int) := of_decide_eq_true dg_
    have q479 : x24_2 < (x4_1.length : Int) := of_decide_eq_true dg_
    obtain ⟨ad479, e479, hx479_0⟩ := Kd.at_int (Kd.R_reads' HO_22.out).2.2 x24_2 p479 q479
    cases e479
    replace p479 := eq_true p479
    replace q479 := eq_true q479
    go_wp2
    go_roundg k2
    case measure => have := HK1.out; have := HK2.out; omega
    case rel => exact ⟨(x6_2), (wrap64 (x24_2 + 1)), ef_, H', ⟨by have := HK1.out; have := HK2.out; omega⟩, ⟨ra_ HO_4.out⟩, ⟨ra_ HO_6.out⟩, ⟨ra_ HO_22.out⟩, ⟨bb_ HB.out⟩⟩
   rw [if_pos c17] at H
   have c17b0 : decide ((rd x4_1 x24_2) < 0) = true := decide_eq_true c17
   clear c17
   by_cases c18 : x24_2 < (x6_2.length : Int)
   rotate_left
   ·rw [if_neg c18] at H
    exact absurd H (by simp)
   rw [if_pos c18] at H
   have c18b0 : decide (x24_2 < (x6_2.length : Int)) = true := decide_eq_true c18
   clear c18
   obtain ⟨y480, hy480⟩ : ∃ y_ : List Int, y_ = (x6_2.set (x24_2 : Int).toNat (-2)) := ⟨_, rfl⟩
   replace H : (impl_OrderOf.l1 k2 l0 x4_1 x17_1 y480 x17_1 x4_1 (x4_1.length : Int) (wrap64 (x24_2 + 1))) = some (r1, r2) := by first | (rw [hy480]; with_reducible exact H) | (have H2_ := (Option.bind_some _ _).symm.trans H; rw [hy480]; with_reducible exact H2_) | (have H2_ := (Option.bind_some _ _).symm.trans H; with_reducible exact H2_) | with_reducible exact H | (rw [hy480]; exact H) | exact H
   have Ny480 := Aside0.mk hy480
   clear hy480
   have H' := Aside0.mk H
   clear H
   have p479 : 0 ≤ (x24_2 : Int) := of_decide_eq_true dg_
   have q479 : x24_2 < (x4_1.length : Int) := of_decide_eq_true dg_
   obtain ⟨ad479, e479, hx479_0⟩ := Kd.at_int (Kd.R_reads' HO_22.out).2.2 x24_2 p479 q479
   cases e479
   replace p479 := eq_true p479
   replace q479 := eq_true q479
   have p19 : 0 ≤ (x24_2 : Int) := of_decide_eq_true dg_
   have q19 : (x24_2 : Int) < ((x6_2.length : Int) : Int) := of_decide_eq_true dg_
   obtain ⟨go19, co19, eo19, gb19, gl19, cl19, HG19⟩ := Kd.R_form HO_6.out (by omega)
   (first | cases eo19 | (injection eo19 with ea_ en_ ec_; (first | subst ea_ | (injection ea_ with ea_; subst ea_)); subst ec_; clear en_))
   have GB19 := Aside0.mk gb19
   have GG19 := Aside0.mk HG19
   clear gb19 gl19 HG19
   obtain ⟨hx19_0, hf19_0⟩ := Kd.R_celln 0 HO_6.out (x24_2 : Int) p19 q19
   replace p19 := eq_true p19
   replace q19 := eq_true q19
   have HP20 := Kd.R_putg HO_6.out (x24_2 : Int) (-2)
   go_wp2_with (first | ((with_reducible refine gate_store (t := 3) (p := 33) rfl ?_); refine store_event (t := 3) (p := 33) (v := ?vo_w21) (w1 := (wr.setCell ⟨go19, (x24_2 : Int).toNat, none⟩ (.int .i64 (-2)))) ?hg ?ho ?hn ?hr ?_; (case ho => rfl); (case hg => rfl); (case hn => rfl); (case hr => first | (go_simp; done) | (go_simp; rfl)); intro w21 hw; have hg : wr.grownBy w21 (some go19) := (by rw [hw]; exact HP20.2); have hp_ : Kd.R (Kd.int .i64) 3 w21 w.heap.size (fun k_ => some k_ ≠ (.slice (some ad479) x4_1.length co12 : Value).ownBlock ∧ some k_ ≠ (.slice (some ad479) x4_1.length co12 : Value).ownBlock) (.slice (some ⟨go19, 0, none⟩) x6_2.length co19) y480 := (by rw [hw, Ny480.out]; exact HP20.1); clear HP20; replace HO_4 := Aside0.mk (Kd.R_after (v := (.slice (some ⟨go19, 0, none⟩) x6_2.length co19)) (v1 := (.slice (some ⟨go19, 0, none⟩) x6_2.length co19)) (ok := (fun _ => True)) (by (with_reducible repeat (first | apply Kd.R_alloc | apply Kd.R_drewN | apply Kd.R_drew)); exact Kd.R_mono HO_4.out (fun _ hk => ⟨trivial, hk⟩)) hg (.inl rfl)); replace HO_6 := Aside0.mk (hp_); replace HO_22 := Aside0.mk (Kd.R_after (v := (.slice (some ⟨go19, 0, none⟩) x6_2.length co19)) (v1 := (.slice (some ⟨go19, 0, none⟩) x6_2.length co19)) (ok := (fun _ => True)) (by (with_reducible repeat (first | apply Kd.R_alloc | apply Kd.R_drewN | apply Kd.R_drew)); exact Kd.R_mono HO_22.out (fun _ hk => ⟨trivial, hk⟩)) hg (.inl rfl)); replace HB := Aside0.mk ((by rw [hw]; exact below_set (HB.out) GB19.out : Below w.heap.size w w21)); clear hg hw hp_))
   go_roundg k2
   case measure => have := HK1.out; have := HK2.out; omega
   case rel => exact ⟨(y480), (wrap64 (x24_2 + 1)), ef_, H', ⟨by have := HK1.out; have := HK2.out; omega⟩, ⟨by (with_reducible repeat (first | apply Kd.R_alloc | apply Kd.R_drewN | apply Kd.R_drew)); exact Kd.R_mono HO_4.out (fun _ hk => hk.2)⟩, ⟨ra_ HO_6.out⟩, ⟨by (with_reducible repeat (first | apply Kd.R_alloc | apply Kd.R_drewN | apply Kd.R_drew)); exact Kd.R_mono HO_22.out (fun _ hk => hk.2)⟩, ⟨bb_ HB.out⟩⟩
  rw [if_neg c14] at H
  have c14b0 : decide (x24_2 < (x4_1.length : Int)) = false := decide_eq_false c14
  clear c14
  have H' := Aside0.mk H
  clear H
  go_wp2
  go_loopg [37] k2 (fun kq v37 w' => ∃ (x6_3 : List Int) (x37_3 : Int), v37 = .int .i64 x37_3 ∧ Aside0 (impl_OrderOf.l2 kq l0 x4_1 x17_1 x6_3 x17_1 l0 (l0.length : Int) x37_3 = some (r1, r2)) ∧ Aside0 (kq ≤ k2) ∧ Aside0 (Kd.R (Kd.int .i64) 3 w' w.heap.size (fun k_ => some k_ ≠ (v477 : Value).ownBlock) (.slice Ao12 x4_1.length co12) x4_1) ∧ Aside0 (Kd.R (Kd.int .i64) 3 w' w.heap.size (fun k_ => some k_ ≠ ((.slice Ao12 x4_1.length co12) : Value).ownBlock) v477 x6_3) ∧ Aside0 (Below w.heap.size w w'))
  case atStart => exact ⟨(x6_2), (0), ef_, H', ⟨Nat.le_refl _⟩, ⟨ra_ HO_4.out⟩, ⟨by (with_reducible repeat (first | apply Kd.R_alloc | apply Kd.R_drewN | apply Kd.R_drew)); exact Kd.R_mono HO_6.out (fun _ hk => hk.1)⟩, ⟨bb_ HB.out⟩⟩
  clear H'
  try clear c3
  try clear c10
  try clear c10b0
  try clear c14
  try clear c14b0
  obtain ⟨x6_3, x37_3, rfl, HA, HK3, HO_4, HO_6, HB⟩ := hrel
  obtain _ | k3 := gk
  ·exact absurd HA.out (by simp [impl_OrderOf.l2])
  have H := HA.out
  clear HA
  simp only [impl_OrderOf.l2] at H
  by_cases c22 : x37_3 < (l0.length : Int)
  rotate_left
  ·rw [if_neg c22] at H
   have c22b0 : decide (x37_3 < (l0.length : Int)) = false := decide_eq_false c22
   clear c22
   obtain ⟨t486, A43, H⟩ := bi_ H
   by_cases c44 : t486 < 0
   ·rw [if_pos c44] at H
    have c44b0 : decide (t486 < 0) = true := decide_eq_true c44
    clear c44
    simp only [Option.some.injEq, Prod.mk.injEq] at H
    obtain ⟨rfl, rfl⟩ := H
    obtain ⟨Ao45, co45, eo45⟩ := Kd.R_slice HO_6.out
    subst eo45
    go_wp2_with (first | ((with_reducible refine gate_callee (f := 147) rfl ?_); refine gm_ (some 62) Try.func147 #[.slice A0 l0.length c0, .slice Ao45 x6_3.length co45] rfl ?_; (with_reducible refine (impl_nextRanked.calls k3 _ _ l0 _ _ x6_3 t486 _ ?side1 HC0.out ?side3 ?side4 A43.out).mono ?_); (case side1 => exact cb_ HR0.out HB.out); (case side3 => exact rr_ HO_6); (case side4 => exact (Kd.R_reads' HO_6.out).2.1); rintro e w' ⟨rfl, ⟨nd, rfl⟩⟩; refine ⟨_, rfl, ?_⟩))
    go_ret2
    exact ⟨_, fin_, by first | exact Kd.R_nil _ _ _ _ _ | exact Kd.N_nil _ _ _ _ _ | exact Kd.V_nil _ _ _ _ _ | exact Kd.Q_nil _ _ _ _ _ | exact Kd.S_nil _ _ _ _ _, bb_ HB.out⟩
   rw [if_neg c44] at H
   have c44b0 : decide (t486 < 0) = false := decide_eq_false c44
   clear c44
   by_cases c46 : 0 ≤ t486
   rotate_left
   ·rw [if_neg c46] at H
    exact absurd H (by simp)
   rw [if_pos c46] at H
   have c46b0 : decide (0 ≤ t486) = true := decide_eq_true c46
   clear c46
   by_cases c47 : t486 < (x4_1.length : Int)
   rotate_left
   ·rw [if_neg c47] at H
    exact absurd H (by simp)
   rw [if_pos c47] at H
   have c47b0 : decide (t486 < (x4_1.length : Int)) = true := decide_eq_true c47
   clear c47
   obtain ⟨y487, hy487⟩ : ∃ y_ : List Int, y_ = (x4_1.set (t486 : Int).toNat x17_1) := ⟨_, rfl⟩
   replace H : (impl_OrderOf.l0 k3 l0 y487 (wrap64 (x17_1 + 1))) = some (r1, r2) := by first | (rw [hy487]; with_reducible exact H) | (have H2_ := (Option.bind_some _ _).symm.trans H; rw [hy487]; with_reducible exact H2_) | (have H2_ := (Option.bind_some _ _).symm.trans H; with_reducible exact H2_) | with_reducible exact H | (rw [hy487]; exact H) | exact H
   have Ny487 := Aside0.mk hy487
   clear hy487
   have H' := Aside0.mk H
   clear H
   obtain ⟨Ao49, co49, eo49⟩ := Kd.R_slice HO_6.out
   subst eo49
   go_wp2_with (first | ((with_reducible refine gate_callee (f := 147) rfl ?_); refine gm_ (some 62) Try.func147 #[.slice A0 l0.length c0, .slice Ao49 x6_3.length co49] rfl ?_; (with_reducible refine (impl_nextRanked.calls k3 _ _ l0 _ _ x6_3 t486 _ ?side1 HC0.out ?side3 ?side4 A43.out).mono ?_); (case side1 => exact cb_ HR0.out HB.out); (case side3 => exact rr_ HO_6); (case side4 => exact (Kd.R_reads' HO_6.out).2.1); rintro e w' ⟨rfl, ⟨nd, rfl⟩⟩; refine ⟨_, rfl, ?_⟩; (try (rw [drewN_self wr]; generalize hq_ : World.drewN wr _ = wr; have n0_ : Aside0 (Kd.R (Kd.int .i64) 3 wr w.heap.size (fun k_ => some k_ ≠ (.slice Ao49 x6_3.length co49 : Value).ownBlock) (.slice Ao12 x4_1.length co12) x4_1) := ⟨by rw [← hq_]; exact (ra_ HO_4.out)⟩; have n1_ : Aside0 (Kd.R (Kd.int .i64) 3 wr w.heap.size (fun k_ => some k_ ≠ (.slice Ao12 x4_1.length co12 : Value).ownBlock) (.slice Ao49 x6_3.length co49) x6_3) := ⟨by rw [← hq_]; exact (ra_ HO_6.out)⟩; have n2_ : Aside0 (Below w.heap.size w wr) := ⟨by rw [← hq_]; exact (by repeat (first | (with_reducible first | exact HB.out | apply below_alloc | apply pw_below_drewN | apply below_drew1) | exact HB.out))⟩; clear HO_4 HO_6 HB hq_; have HO_4 := n0_; have HO_6 := n1_; have HB := n2_; clear n0_ n1_ n2_)); have p48 : 0 ≤ (t486 : Int) := of_decide_eq_true dg_; have q48 : (t486 : Int) < ((x4_1.length : Int) : Int) := of_decide_eq_true dg_; obtain ⟨go48, co48, eo48, gb48, gl48, cl48, HG48⟩ := Kd.R_form HO_4.out (by omega); (first | cases eo48 | (injection eo48 with ea_ en_ ec_; (first | subst ea_ | (injection ea_ with ea_; subst ea_)); subst ec_; clear en_)); have GB48 := Aside0.mk gb48; have GG48 := Aside0.mk HG48; clear gb48 gl48 HG48; obtain ⟨hx48_0, hf48_0⟩ := Kd.R_celln 0 HO_4.out (t486 : Int) p48 q48; replace p48 := eq_true p48; replace q48 := eq_true q48; obtain ⟨hy50_, hz50_⟩ := Kd.R_celln 0 HO_4.out (t486 : Int) (of_decide_eq_true dg_) (of_decide_eq_true dg_); have HP50 := Kd.R_putg HO_4.out (t486 : Int) x17_1) | ((with_reducible refine gate_store (t := 3) (p := 68) rfl ?_); refine store_event (t := 3) (p := 68) (v := ?vo_w51) (w1 := (wr.setCell ⟨go48, (t486 : Int).toNat, none⟩ (.int .i64 x17_1))) ?hg ?ho ?hn ?hr ?_; (case ho => rfl); (case hg => rfl); (case hn => rfl); (case hr => first | (go_simp; done) | (go_simp; rfl)); intro w51 hw; have hg : wr.grownBy w51 (some go48) := (by rw [hw]; exact HP50.2); have hp_ : Kd.R (Kd.int .i64) 3 w51 w.heap.size (fun k_ => some k_ ≠ (.slice Ao49 x6_3.length co49 : Value).ownBlock) (.slice (some ⟨go48, 0, none⟩) x4_1.length co12) y487 := (by rw [hw, Ny487.out]; exact HP50.1); clear HP50; replace HO_4 := Aside0.mk (hp_); replace HO_6 := Aside0.mk (Kd.R_after (v := (.slice (some ⟨go48, 0, none⟩) x4_1.length co12)) (v1 := (.slice (some ⟨go48, 0, none⟩) x4_1.length co12)) (ok := (fun _ => True)) (by (with_reducible repeat (first | apply Kd.R_alloc | apply Kd.R_drewN | apply Kd.R_drew)); exact Kd.R_mono HO_6.out (fun _ hk => ⟨trivial, hk⟩)) hg (.inl rfl)); replace HB := Aside0.mk ((by rw [hw]; exact below_set (HB.out) GB48.out : Below w.heap.size w w51)); clear hg hw hp_))
   go_roundg k3
   case measure => have := HK1.out; have := HK2.out; have := HK3.out; omega
   case rel => exact ⟨(y487), (wrap64 (x17_1 + 1)), ef_, H', ⟨by have := HK1.out; have := HK2.out; have := HK3.out; omega⟩, ⟨by (with_reducible repeat (first | apply Kd.R_alloc | apply Kd.R_drewN | apply Kd.R_drew)); exact Kd.R_mono HO_4.out (fun _ hk => trivial)⟩, ⟨bb_ HB.out⟩⟩
  rw [if_pos c22] at H
  have c22b0 : decide (x37_3 < (l0.length : Int)) = true := decide_eq_true c22
  clear c22
  by_cases c23 : 0 ≤ x37_3
  rotate_left
  ·rw [if_neg c23] at H
   exact absurd H (by simp)
  rw [if_pos c23] at H
  have c23b0 : decide (0 ≤ x37_3) = true := decide_eq_true c23
  clear c23
  by_cases c24 : x37_3 < (l0.length : Int)
  rotate_left
  ·rw [if_neg c24] at H
   exact absurd H (by simp)
  rw [if_pos c24] at H
  have c24b0 : decide (x37_3 < (l0.length : Int)) = true := decide_eq_true c24
  clear c24
  by_cases c25 : 0 ≤ ((rd_T94 l0 x37_3).f0)
  rotate_left
  ·rw [if_neg c25] at H
   exact absurd H (by simp)
  rw [if_pos c25] at H
  have c25b0 : decide (0 ≤ ((rd_T94 l0 x37_3).f0)) = true := decide_eq_true c25
  clear c25
  by_cases c26 : ((rd_T94 l0 x37_3).f0) < (x4_1.length : Int)
  rotate_left
  ·rw [if_neg c26] at H
   exact absurd H (by simp)
  rw [if_pos c26] at H
  have c26b0 : decide (((rd_T94 l0 x37_3).f0) < (x4_1.length : Int)) = true := decide_eq_true c26
  clear c26
  by_cases c27 : (rd x4_1 ((rd_T94 l0 x37_3).f0)) < 0
  rotate_left
  ·rw [if_neg c27] at H
   have c27b0 : decide ((rd x4_1 ((rd_T94 l0 x37_3).f0)) < 0) = false := decide_eq_false c27
   clear c27
   have H' := Aside0.mk H
   clear H
   have p481 : 0 ≤ (x37_3 : Int) := of_decide_eq_true dg_
   have q481 : x37_3 < (l0.length : Int) := of_decide_eq_true dg_
   obtain ⟨ad481, e481, hx481_0, hx481_1⟩ := at_T94 HR0.out x37_3 p481 q481
   cases e481
   replace hx481_0 := hc_ HB hx481_0
   replace hx481_1 := hc_ HB hx481_1
   replace p481 := eq_true p481
   replace q481 := eq_true q481
   exact impl_OrderOf.e0
  rw [if_pos c27] at H
  have c27b0 : decide ((rd x4_1 ((rd_T94 l0 x37_3).f0)) < 0) = true := decide_eq_true c27
  clear c27
  by_cases c28 : 0 ≤ ((rd_T94 l0 x37_3).f1)
  rotate_left
  ·rw [if_neg c28] at H
   exact absurd H (by simp)
  rw [if_pos c28] at H
  have c28b0 : decide (0 ≤ ((rd_T94 l0 x37_3).f1)) = true := decide_eq_true c28
  clear c28
  by_cases c29 : ((rd_T94 l0 x37_3).f1) < (x4_1.length : Int)
  rotate_left
  ·rw [if_neg c29] at H
   exact absurd H (by simp)
  rw [if_pos c29] at H
  have c29b0 : decide (((rd_T94 l0 x37_3).f1) < (x4_1.length : Int)) = true := decide_eq_true c29
  clear c29
  by_cases c30 : (rd x4_1 ((rd_T94 l0 x37_3).f1)) < 0
  rotate_left
  ·rw [if_neg c30] at H
   have c30b0 : decide ((rd x4_1 ((rd_T94 l0 x37_3).f1)) < 0) = false := decide_eq_false c30
   clear c30
   have H' := Aside0.mk H
   clear H
   have p481 : 0 ≤ (x37_3 : Int) := of_decide_eq_true dg_
   have q481 : x37_3 < (l0.length : Int) := of_decide_eq_true dg_
   obtain ⟨ad481, e481, hx481_0, hx481_1⟩ := at_T94 HR0.out x37_3 p481 q481
   cases e481
   replace hx481_0 := hc_ HB hx481_0
   replace hx481_1 := hc_ HB hx481_1
   replace p481 := eq_true p481
   replace q481 := eq_true q481
   exact impl_OrderOf.e0
  rw [if_pos c30] at H
  have c30b0 : decide ((rd x4_1 ((rd_T94 l0 x37_3).f1)) < 0) = true := decide_eq_true c30
  clear c30
  by_cases c31 : ((rd_T94 l0 x37_3).f1) < (x6_3.length : Int)
  rotate_left
  ·rw [if_neg c31] at H
   exact absurd H (by simp)
  rw [if_pos c31] at H
  have c31b0 : decide (((rd_T94 l0 x37_3).f1) < (x6_3.length : Int)) = true := decide_eq_true c31
  clear c31
  obtain ⟨y485, hy485⟩ : ∃ y_ : List Int, y_ = (x6_3.set (((rd_T94 l0 x37_3).f1) : Int).toNat (-1)) := ⟨_, rfl⟩
  replace H : (impl_OrderOf.l2 k3 l0 x4_1 x17_1 y485 x17_1 l0 (l0.length : Int) (wrap64 (x37_3 + 1))) = some (r1, r2) := by first | (rw [hy485]; with_reducible exact H) | (have H2_ := (Option.bind_some _ _).symm.trans H; rw [hy485]; with_reducible exact H2_) | (have H2_ := (Option.bind_some _ _).symm.trans H; with_reducible exact H2_) | with_reducible exact H | (rw [hy485]; exact H) | exact H
  have Ny485 := Aside0.mk hy485
  clear hy485
  have H' := Aside0.mk H
  clear H
  have p481 : 0 ≤ (x37_3 : Int) := of_decide_eq_true dg_
  have q481 : x37_3 < (l0.length : Int) := of_decide_eq_true dg_
  obtain ⟨ad481, e481, hx481_0, hx481_1⟩ := at_T94 HR0.out x37_3 p481 q481
  cases e481
  replace hx481_0 := hc_ HB hx481_0
  replace hx481_1 := hc_ HB hx481_1
  replace p481 := eq_true p481
  replace q481 := eq_true q481
  go_wp2_with (first | ((with_reducible refine gate_dst (N := 10) rfl ?_); refine box_event ?hg (N := 10) ?hd (cs := #[.int .i64 0, .int .i64 0]) (t := 94) ?hr ?_; (case hd => rfl); (case hg => rfl); (case hr => first | (go_simp; done) | (go_simp; rfl)); intro gb482 hg w33 hbox hb; replace HO_4 := rb_ HO_4 hb; replace HO_6 := rb_ HO_6 hb; have BK482 := Aside0.mk (hbox); have GW482 := gw_ hg HB; replace HB := hs_ HB hb; clear hb hbox hg; obtain ⟨hcz34_0, hcz34_1, hfz34_0, hfz34_1⟩ := cz2_ BK482.out) | ((with_reducible refine gate_store (t := 94) (p := 10) rfl ?_); refine store_event (t := 94) (p := 10) (v := ?vo_w35) (w1 := ((w33.setCell ⟨gb482, 0, none⟩ (.int .i64 ((rd_T94 l0 x37_3).f0))).setCell ⟨gb482, 1, none⟩ (.int .i64 ((rd_T94 l0 x37_3).f1)))) ?hg ?ho ?hn ?hr ?_; (case ho => rfl); (case hg => rfl); (case hn => rfl); (case hr => first | (go_simp; done) | (go_simp; rfl)); intro w35 hw; have n0_ : Aside0 (Kd.R (Kd.int .i64) 3 w35 w.heap.size (fun k_ => some k_ ≠ (v477 : Value).ownBlock) (.slice Ao12 x4_1.length co12) x4_1) := ⟨(by rw [hw]; exact (rm_ (Kd.R_types HO_4.out BK482.out (by decide)) (fun _ hk => hk.1)))⟩; have n1_ : Aside0 (Kd.R (Kd.int .i64) 3 w35 w.heap.size (fun k_ => some k_ ≠ (.slice Ao12 x4_1.length co12 : Value).ownBlock) v477 x6_3) := ⟨(by rw [hw]; exact (rm_ (Kd.R_types HO_6.out BK482.out (by decide)) (fun _ hk => hk.1)))⟩; have n2_ : Aside0 (w35.heap[gb482]? = some (.cells #[.int .i64 ((rd_T94 l0 x37_3).f0), .int .i64 ((rd_T94 l0 x37_3).f1)] 94 (0, 0))) := ⟨(by rw [hw]; exact (by (with_reducible repeat (first | refine blk_drewN ?_ _ | refine blk_drew ?_ | refine blk_alloc ?_ _)); refine blk_put (cs := #[.int .i64 ((rd_T94 l0 x37_3).f0), .int .i64 0]) ?_ 1 _ rfl; (with_reducible repeat (first | refine blk_drewN ?_ _ | refine blk_drew ?_ | refine blk_alloc ?_ _)); refine blk_put (cs := #[.int .i64 0, .int .i64 0]) ?_ 0 _ rfl; (with_reducible repeat (first | refine blk_drewN ?_ _ | refine blk_drew ?_ | refine blk_alloc ?_ _)); exact BK482.out))⟩; have n3_ : Aside0 (Below w.heap.size w w35) := ⟨(by rw [hw]; exact (by repeat (first | (with_reducible first | exact HB.out | apply below_alloc | apply pw_below_drewN | apply below_drew1 | refine below_set ?_ GW482.out) | exact HB.out)))⟩; clear hw; clear HO_4; clear HO_6; clear BK482; clear HB; have HO_4 := n0_; have HO_6 := n1_; have BK482 := n2_; have HB := n3_; clear n0_ n1_ n2_ n3_; obtain ⟨hcz36_0, hcz36_1, hfz36_0, hfz36_1⟩ := cz2_ BK482.out; have p483 : 0 ≤ (((rd_T94 l0 x37_3).f0) : Int) := of_decide_eq_true dg_; have q483 : ((rd_T94 l0 x37_3).f0) < (x4_1.length : Int) := of_decide_eq_true dg_; obtain ⟨ad483, e483, hx483_0⟩ := Kd.at_int (Kd.R_reads' HO_4.out).2.2 ((rd_T94 l0 x37_3).f0) p483 q483; cases e483; replace p483 := eq_true p483; replace q483 := eq_true q483; have p484 : 0 ≤ (((rd_T94 l0 x37_3).f1) : Int) := of_decide_eq_true dg_; have q484 : ((rd_T94 l0 x37_3).f1) < (x4_1.length : Int) := of_decide_eq_true dg_; obtain ⟨ad484, e484, hx484_0⟩ := Kd.at_int (Kd.R_reads' HO_4.out).2.2 ((rd_T94 l0 x37_3).f1) p484 q484; obtain rfl : ad483 = ad484 := (by injection e484); replace p484 := eq_true p484; replace q484 := eq_true q484; have p32 : 0 ≤ (((rd_T94 l0 x37_3).f1) : Int) := of_decide_eq_true dg_; have q32 : (((rd_T94 l0 x37_3).f1) : Int) < ((x6_3.length : Int) : Int) := of_decide_eq_true dg_; obtain ⟨go32, co32, eo32, gb32, gl32, cl32, HG32⟩ := Kd.R_form HO_6.out (by omega); (first | cases eo32 | (injection eo32 with ea_ en_ ec_; (first | subst ea_ | (injection ea_ with ea_; subst ea_)); subst ec_; clear en_)); have GB32 := Aside0.mk gb32; have GG32 := Aside0.mk HG32; clear gb32 gl32 HG32; obtain ⟨hx32_0, hf32_0⟩ := Kd.R_celln 0 HO_6.out (((rd_T94 l0 x37_3).f1) : Int) p32 q32; replace p32 := eq_true p32; replace q32 := eq_true q32; obtain ⟨hy37_, hz37_⟩ := Kd.R_celln 0 HO_6.out (((rd_T94 l0 x37_3).f1) : Int) (of_decide_eq_true dg_) (of_decide_eq_true dg_); have HP37 := Kd.R_putg HO_6.out (((rd_T94 l0 x37_3).f1) : Int) (-1)) | ((with_reducible refine gate_store (t := 3) (p := 58) rfl ?_); refine store_event (t := 3) (p := 58) (v := ?vo_w38) (w1 := (w35.setCell ⟨go32, (((rd_T94 l0 x37_3).f1) : Int).toNat, none⟩ (.int .i64 (-1)))) ?hg ?ho ?hn ?hr ?_; (case ho => rfl); (case hg => rfl); (case hn => rfl); (case hr => first | (go_simp; done) | (go_simp; rfl)); intro w38 hw; have hg : w35.grownBy w38 (some go32) := (by rw [hw]; exact HP37.2); have hp_ : Kd.R (Kd.int .i64) 3 w38 w.heap.size (fun k_ => some k_ ≠ (.slice (some ad483) x4_1.length co12 : Value).ownBlock) (.slice (some ⟨go32, 0, none⟩) x6_3.length co32) y485 := (by rw [hw, Ny485.out]; exact HP37.1); clear HP37; replace HO_4 := Aside0.mk (Kd.R_after (v := (.slice (some ⟨go32, 0, none⟩) x6_3.length co32)) (v1 := (.slice (some ⟨go32, 0, none⟩) x6_3.length co32)) (ok := (fun _ => True)) (by (with_reducible repeat (first | apply Kd.R_alloc | apply Kd.R_drewN | apply Kd.R_drew)); exact Kd.R_mono HO_4.out (fun _ hk => ⟨trivial, hk⟩)) hg (.inl rfl)); replace BK482 := Aside0.mk (blk_grown (g := gb482) (o := .cells #[.int .i64 ((rd_T94 l0 x37_3).f0), .int .i64 ((rd_T94 l0 x37_3).f1)] 94 (0, 0)) (by (with_reducible repeat (first | refine blk_drewN ?_ _ | refine blk_drew ?_ | refine blk_alloc ?_ _)); exact BK482.out) hg (Kd.R_ne HO_6.out BK482.out (by decide))); replace HO_6 := Aside0.mk (hp_); replace HB := Aside0.mk ((by rw [hw]; exact below_set (HB.out) GB32.out : Below w.heap.size w w38)); clear hg hw hp_))
  go_roundg k3
  case measure => have := HK1.out; have := HK2.out; have := HK3.out; omega
  case rel => exact ⟨(y485), (wrap64 (x37_3 + 1)), ef_, H', ⟨by have := HK1.out; have := HK2.out; have := HK3.out; omega⟩, ⟨by (with_reducible repeat (first | apply Kd.R_alloc | apply Kd.R_drewN | apply Kd.R_drew)); exact Kd.R_mono HO_4.out (fun _ hk => hk.2)⟩, ⟨ra_ HO_6.out⟩, ⟨bb_ HB.out⟩⟩
 ·replace c3 := Bool.eq_false_iff.mpr c3
  subst c3
  rw [if_neg (show ¬ (false = true) by decide)] at H
  simp only [Option.some.injEq, Prod.mk.injEq] at H
  obtain ⟨rfl, rfl⟩ := H
  go_enter Try.func120, Try.ntmps120
  go_wp2_with (first | ((with_reducible refine gate_callee (f := 124) rfl ?_); refine gm_ (some 13) Try.func124 #[.slice A0 l0.length c0] rfl ?_; (with_reducible refine (impl_DependsOk.calls k _ _ l0 false _ ?side1 HC0.out A2.out).mono ?_); (case side1 => repeat (first | exact HR0.out | (with_reducible refine Kd.C_alloc ?_ _) | (with_reducible refine Kd.C_drewN ?_ _) | (with_reducible refine Kd.C_drew ?_))); rintro e w52 ⟨rfl, hb⟩; refine ⟨_, rfl, ?_⟩; replace HB := hs_ HB hb; (try clear hb)))
  go_ret2
  exact ⟨_, fin_, by first | exact Kd.R_nil _ _ _ _ _ | exact Kd.N_nil _ _ _ _ _ | exact Kd.V_nil _ _ _ _ _ | exact Kd.Q_nil _ _ _ _ _ | exact Kd.S_nil _ _ _ _ _, bb_ HB.out⟩

/-! ### impl_judged: function 79 -/
def impl_judged.f (k : Nat) (l0 : List (S94)) : Option (Int × List Int × List Int) := (impl_OrderOf.f k l0).bind fun bt489 => (if bt489.2 = true then (some (1, bt489.1, ([] : List Int))) else ((impl_ShortestCycle.f k l0).bind fun t493 => (some (2, ([] : List Int), t493))))
theorem impl_judged.mono : ∀ a0 k, LeO (impl_judged.f k a0) (impl_judged.f (k + 1) a0) := by
 intro a0 k
 unfold impl_judged.f
 repeat' (with_reducible first | exact impl_OrderOf.mono .. | exact impl_ShortestCycle.mono .. | exact LeO.refl .. | exact LeO.none .. | refine LeO.ite ?_ ?_ | refine LeO.bind ?_ (fun _ => ?_))
theorem impl_judged.calls (k : Nat) (A0 : Option Addr) (c0 : Nat) (l0 : List (S94)) (r1 : Int) (r2 : List Int) (r3 : List Int) (w : World) (hr0 : Kd.C k94 w A0 l0.length l0) (hc0 : l0.length ≤ c0) (h : impl_judged.f k l0 = some (r1, r2, r3)) :
  Calls Try.prog 79 #[.slice A0 l0.length c0] w fun e w' => ∃ v1_ v2_ : Value, e = .returned (.agg #[.int .i64 r1, v1_, v2_]) ∧ Kd.R (Kd.int .i64) 3 w' w.heap.size (fun k_ => some k_ ≠ (v2_ : Value).ownBlock) v1_ r2 ∧ Kd.R (Kd.int .i64) 3 w' w.heap.size (fun k_ => some k_ ≠ (v1_ : Value).ownBlock) v2_ r3 ∧ Below w.heap.size w w' := by
 have hu40 := Try.underlying40
 have HR0 := Aside0.mk hr0
 have HC0 := Aside0.mk hc0
 clear hr0 hc0
 have HB := Aside0.mk (Below.refl w.heap.size w)
 have H : ((impl_OrderOf.f k l0).bind fun bt489 => (if bt489.2 = true then (some (1, bt489.1, ([] : List Int))) else ((impl_ShortestCycle.f k l0).bind fun t493 => (some (2, ([] : List Int), t493))))) = some (r1, r2, r3) := h
 clear h
 obtain ⟨⟨t489, t490⟩, A2, H⟩ := bi_ H
 try dsimp only at H
 by_cases c3 : t490 = true
 ·subst c3
  rw [if_pos rfl] at H
  simp only [Option.some.injEq, Prod.mk.injEq] at H
  obtain ⟨rfl, rfl, rfl⟩ := H
  go_enter Try.func79, Try.ntmps79
  go_wp2_with (first | ((with_reducible refine gate_dst (N := 2) rfl ?_); refine box_event ?hg (N := 2) ?hd (cs := #[.int .i64 0, .slice none 0 0, .slice none 0 0]) (t := 40) ?hr ?_; (case hd => rfl); (case hg => rfl); (case hr => first | (go_simp; done) | (go_simp; rfl)); intro gb488 hg w4 hbox hb; have BK488 := Aside0.mk (hbox); have GW488 := gw_ hg HB; replace HB := hs_ HB hb; clear hb hbox hg) | ((with_reducible refine gate_callee (f := 120) rfl ?_); refine gm_ (some 7) Try.func120 #[.slice A0 l0.length c0] rfl ?_; (with_reducible refine (impl_OrderOf.calls k _ _ l0 t489 true _ ?side1 HC0.out A2.out).mono ?_); (case side1 => exact cb_ HR0.out HB.out); rintro e w5 ⟨v491, rfl, ho0, hb⟩; refine ⟨_, rfl, ?_⟩; have HO492 := Aside0.mk (Kd.R_lower ho0 (bz_ HB.out)); replace BK488 := kb_ BK488 hb; replace HB := hs_ HB hb; (try clear hb); (try clear ho0); obtain ⟨Ao6, co6, eo6⟩ := Kd.R_slice HO492.out; subst eo6; obtain ⟨hcz7_0, hcz7_1, hcz7_2, hfz7_0, hfz7_1, hfz7_2⟩ := cz3_ BK488.out))
  refine bodyPost_ret (results_cell_row rfl _ _ gb488 40 #[.int .i64 1, .slice Ao6 t489.length co6, .slice none 0 0] (0, 0) _ rfl (by (with_reducible repeat (first | refine blk_drewN ?_ _ | refine blk_drew ?_ | refine blk_alloc ?_ _)); refine blk_put (cs := #[.int .i64 1, .slice Ao6 t489.length co6, .slice none 0 0]) ?_ 2 _ rfl; (with_reducible repeat (first | refine blk_drewN ?_ _ | refine blk_drew ?_ | refine blk_alloc ?_ _)); refine blk_put (cs := #[.int .i64 1, .slice none 0 0, .slice none 0 0]) ?_ 1 _ rfl; (with_reducible repeat (first | refine blk_drewN ?_ _ | refine blk_drew ?_ | refine blk_alloc ?_ _)); refine blk_put (cs := #[.int .i64 0, .slice none 0 0, .slice none 0 0]) ?_ 0 _ rfl; (with_reducible repeat (first | refine blk_drewN ?_ _ | refine blk_drew ?_ | refine blk_alloc ?_ _)); exact BK488.out) Try.underlying40 rfl (by kernel_rfl)) rfl ?_
  exact ⟨_, _, fin_, rm_ (Kd.R_types HO492.out BK488.out (by decide)) (fun _ hk => (by simp [Value.ownBlock])), by first | exact Kd.R_nil _ _ _ _ _ | exact Kd.N_nil _ _ _ _ _ | exact Kd.V_nil _ _ _ _ _ | exact Kd.Q_nil _ _ _ _ _ | exact Kd.S_nil _ _ _ _ _, bb_ HB.out⟩
 ·replace c3 := Bool.eq_false_iff.mpr c3
  subst c3
  rw [if_neg (show ¬ (false = true) by decide)] at H
  obtain ⟨t493, A8, H⟩ := bi_ H
  simp only [Option.some.injEq, Prod.mk.injEq] at H
  obtain ⟨rfl, rfl, rfl⟩ := H
  go_enter Try.func79, Try.ntmps79
  go_wp2_with (first | ((with_reducible refine gate_dst (N := 2) rfl ?_); refine box_event ?hg (N := 2) ?hd (cs := #[.int .i64 0, .slice none 0 0, .slice none 0 0]) (t := 40) ?hr ?_; (case hd => rfl); (case hg => rfl); (case hr => first | (go_simp; done) | (go_simp; rfl)); intro gb488 hg w9 hbox hb; have BK488 := Aside0.mk (hbox); have GW488 := gw_ hg HB; replace HB := hs_ HB hb; clear hb hbox hg) | ((with_reducible refine gate_callee (f := 120) rfl ?_); refine gm_ (some 7) Try.func120 #[.slice A0 l0.length c0] rfl ?_; (with_reducible refine (impl_OrderOf.calls k _ _ l0 t489 false _ ?side1 HC0.out A2.out).mono ?_); (case side1 => exact cb_ HR0.out HB.out); rintro e w10 ⟨v491, rfl, ho0, hb⟩; refine ⟨_, rfl, ?_⟩; have HO492 := Aside0.mk (Kd.R_lower ho0 (bz_ HB.out)); replace BK488 := kb_ BK488 hb; replace HB := hs_ HB hb; (try clear hb); (try clear ho0)) | ((with_reducible refine gate_callee (f := 107) rfl ?_); refine gm_ (some 14) Try.func107 #[.slice A0 l0.length c0] rfl ?_; (with_reducible refine (impl_ShortestCycle.calls k _ _ l0 t493 _ ?side1 HC0.out A8.out).mono ?_); (case side1 => exact cb_ HR0.out HB.out); rintro e w11 ⟨v494, rfl, ho0, hb⟩; refine ⟨_, rfl, ?_⟩; have HO495 := Aside0.mk (Kd.R_lower (Kd.R_new' ho0 (rl_ HO492.out)) (bz_ HB.out)); replace HO492 := re_ HO492 ho0 hb; replace BK488 := kb_ BK488 hb; replace HB := hs_ HB hb; (try clear hb); (try clear ho0); obtain ⟨Ao12, co12, eo12⟩ := Kd.R_slice HO495.out; subst eo12; obtain ⟨hcz13_0, hcz13_1, hcz13_2, hfz13_0, hfz13_1, hfz13_2⟩ := cz3_ BK488.out))
  refine bodyPost_ret (results_cell_row rfl _ _ gb488 40 #[.int .i64 2, .slice none 0 0, .slice Ao12 t493.length co12] (0, 0) _ rfl (by (with_reducible repeat (first | refine blk_drewN ?_ _ | refine blk_drew ?_ | refine blk_alloc ?_ _)); refine blk_put (cs := #[.int .i64 2, .slice none 0 0, .slice none 0 0]) ?_ 2 _ rfl; (with_reducible repeat (first | refine blk_drewN ?_ _ | refine blk_drew ?_ | refine blk_alloc ?_ _)); refine blk_put (cs := #[.int .i64 2, .slice none 0 0, .slice none 0 0]) ?_ 1 _ rfl; (with_reducible repeat (first | refine blk_drewN ?_ _ | refine blk_drew ?_ | refine blk_alloc ?_ _)); refine blk_put (cs := #[.int .i64 0, .slice none 0 0, .slice none 0 0]) ?_ 0 _ rfl; (with_reducible repeat (first | refine blk_drewN ?_ _ | refine blk_drew ?_ | refine blk_alloc ?_ _)); exact BK488.out) Try.underlying40 rfl (by kernel_rfl)) rfl ?_
  exact ⟨_, _, fin_, by first | exact Kd.R_nil _ _ _ _ _ | exact Kd.N_nil _ _ _ _ _ | exact Kd.V_nil _ _ _ _ _ | exact Kd.Q_nil _ _ _ _ _ | exact Kd.S_nil _ _ _ _ _, rm_ (Kd.R_types HO495.out BK488.out (by decide)) (fun _ hk => (by simp [Value.ownBlock])), bb_ HB.out⟩

/-! ### impl_CheckTable: function 27 -/
def impl_CheckTable.f (k : Nat) (a0_0 : Int) (a0_1 : Int) (l0_2 : List Int) (l1_0 : List Int) : Option (Int × List Int × List Int) := (impl_TableOk.f k a0_0 a0_1 l0_2 l1_0).bind fun t499 => (if t499 = true then ((impl_DependsOf.f k a0_0 a0_1 l0_2 l1_0).bind fun t500 => ((impl_judged.f k t500).bind fun bt503 => (some (bt503.1, bt503.2.1, bt503.2.2)))) else (some (0, ([] : List Int), ([] : List Int))))
theorem impl_CheckTable.mono : ∀ a0 a1 a2 a3 k, LeO (impl_CheckTable.f k a0 a1 a2 a3) (impl_CheckTable.f (k + 1) a0 a1 a2 a3) := by
 intro a0 a1 a2 a3 k
 unfold impl_CheckTable.f
 repeat' (with_reducible first | exact impl_DependsOf.mono .. | exact impl_TableOk.mono .. | exact impl_judged.mono .. | exact LeO.refl .. | exact LeO.none .. | refine LeO.ite ?_ ?_ | refine LeO.bind ?_ (fun _ => ?_))
theorem impl_CheckTable.calls (k : Nat) (a0_0 : Int) (a0_1 : Int) (A0_2 : Option Addr) (c0_2 : Nat) (l0_2 : List Int) (A1_0 : Option Addr) (c1_0 : Nat) (l1_0 : List Int) (r1 : Int) (r2 : List Int) (r3 : List Int) (w : World) (hr0_2 : Kd.C (Kd.int .i64) w A0_2 l0_2.length l0_2) (hc0_2 : l0_2.length ≤ c0_2) (hr1_0 : Kd.C (Kd.int .i64) w A1_0 l1_0.length l1_0) (hc1_0 : l1_0.length ≤ c1_0) (h : impl_CheckTable.f k a0_0 a0_1 l0_2 l1_0 = some (r1, r2, r3)) :
  Calls Try.prog 27 #[.agg #[.int .i64 a0_0, .int .i64 a0_1, .slice A0_2 l0_2.length c0_2], .agg #[.slice A1_0 l1_0.length c1_0]] w fun e w' => ∃ v1_ v2_ : Value, e = .returned (.agg #[.int .i64 r1, v1_, v2_]) ∧ Kd.R (Kd.int .i64) 3 w' w.heap.size (fun k_ => some k_ ≠ (v2_ : Value).ownBlock) v1_ r2 ∧ Kd.R (Kd.int .i64) 3 w' w.heap.size (fun k_ => some k_ ≠ (v1_ : Value).ownBlock) v2_ r3 ∧ Below w.heap.size w w' := by
 have hu44 := Try.underlying44
 have hu46 := Try.underlying46
 have hu40 := Try.underlying40
 have HR0_2 := Aside0.mk hr0_2
 have HC0_2 := Aside0.mk hc0_2
 clear hr0_2 hc0_2
 have HR1_0 := Aside0.mk hr1_0
 have HC1_0 := Aside0.mk hc1_0
 clear hr1_0 hc1_0
 have HB := Aside0.mk (Below.refl w.heap.size w)
 have H : ((impl_TableOk.f k a0_0 a0_1 l0_2 l1_0).bind fun t499 => (if t499 = true then ((impl_DependsOf.f k a0_0 a0_1 l0_2 l1_0).bind fun t500 => ((impl_judged.f k t500).bind fun bt503 => (some (bt503.1, bt503.2.1, bt503.2.2)))) else (some (0, ([] : List Int), ([] : List Int))))) = some (r1, r2, r3) := h
 clear h
 obtain ⟨t499, A3, H⟩ := bi_ H
 by_cases c4 : t499 = true
 ·subst c4
  rw [if_pos rfl] at H
  obtain ⟨t500, A5, H⟩ := bi_ H
  obtain ⟨⟨t503, t504, t507⟩, A6, H⟩ := bi_ H
  try dsimp only at H
  simp only [Option.some.injEq, Prod.mk.injEq] at H
  obtain ⟨rfl, rfl, rfl⟩ := H
  go_enter Try.func27, Try.ntmps27
  go_wp2_with (first | ((with_reducible refine gate_dst (N := 2) rfl ?_); refine box_event ?hg (N := 2) ?hd (cs := #[.int .i64 a0_0, .int .i64 a0_1, .slice A0_2 l0_2.length c0_2]) (t := 44) ?hr ?_; (case hd => rfl); (case hg => rfl); (case hr => first | (go_simp; done) | (go_simp; rfl)); intro gb496 hg w7 hbox hb; have BK496 := Aside0.mk (hbox); have GW496 := gw_ hg HB; replace HB := hs_ HB hb; clear hb hbox hg) | ((with_reducible refine gate_dst (N := 3) rfl ?_); refine box_event ?hg (N := 3) ?hd (cs := #[.slice A1_0 l1_0.length c1_0]) (t := 46) ?hr ?_; (case hd => rfl); (case hg => rfl); (case hr => first | (go_simp; done) | (go_simp; rfl)); intro gb497 hg w8 hbox hb; have BK497 := Aside0.mk (hbox); have GW497 := gw_ hg HB; replace HB := hs_ HB hb; have NB496_497 := nl_ hg BK496; have NB497_496 := ng_ hg BK496; replace BK496 := kb_ BK496 hb; clear hb hbox hg) | ((with_reducible refine gate_dst (N := 4) rfl ?_); refine box_event ?hg (N := 4) ?hd (cs := #[.int .i64 0, .slice none 0 0, .slice none 0 0]) (t := 40) ?hr ?_; (case hd => rfl); (case hg => rfl); (case hr => first | (go_simp; done) | (go_simp; rfl)); intro gb498 hg w9 hbox hb; have BK498 := Aside0.mk (hbox); have GW498 := gw_ hg HB; replace HB := hs_ HB hb; have NB496_498 := nl_ hg BK496; have NB498_496 := ng_ hg BK496; replace BK496 := kb_ BK496 hb; have NB497_498 := nl_ hg BK497; have NB498_497 := ng_ hg BK497; replace BK497 := kb_ BK497 hb; clear hb hbox hg; have hnb10 := NB496_497.out; have hnc10 := NB497_496.out; have hnb11 := NB496_498.out; have hnc11 := NB498_496.out; obtain ⟨hcz12_0, hcz12_1, hcz12_2, hfz12_0, hfz12_1, hfz12_2⟩ := cz3_ BK496.out; have hnb13 := NB497_498.out; have hnc13 := NB498_497.out; obtain ⟨hcz14_0, hfz14_0⟩ := cz1_ BK497.out) | ((with_reducible refine gate_callee (f := 78) rfl ?_); refine gm_ (some 7) Try.func78 #[.agg #[.int .i64 a0_0, .int .i64 a0_1, .slice A0_2 l0_2.length c0_2], .agg #[.slice A1_0 l1_0.length c1_0]] rfl ?_; (with_reducible refine (impl_TableOk.calls k a0_0 a0_1 _ _ l0_2 _ _ l1_0 true _ ?side1 HC0_2.out ?side3 HC1_0.out A3.out).mono ?_); (case side1 => exact cb_ HR0_2.out HB.out); (case side3 => exact cb_ HR1_0.out HB.out); rintro e w15 ⟨rfl, hb⟩; refine ⟨_, rfl, ?_⟩; replace BK496 := kb_ BK496 hb; replace BK497 := kb_ BK497 hb; replace BK498 := kb_ BK498 hb; replace HB := hs_ HB hb; (try clear hb); obtain ⟨hcz16_0, hcz16_1, hcz16_2, hfz16_0, hfz16_1, hfz16_2⟩ := cz3_ BK496.out; obtain ⟨hcz17_0, hfz17_0⟩ := cz1_ BK497.out) | ((with_reducible refine gate_callee (f := 60) rfl ?_); refine gm_ (some 12) Try.func60 #[.agg #[.int .i64 a0_0, .int .i64 a0_1, .slice A0_2 l0_2.length c0_2], .agg #[.slice A1_0 l1_0.length c1_0]] rfl ?_; (with_reducible refine (impl_DependsOf.calls k a0_0 a0_1 _ _ l0_2 _ _ l1_0 t500 _ ?side1 HC0_2.out ?side3 HC1_0.out A5.out).mono ?_); (case side1 => exact cb_ HR0_2.out HB.out); (case side3 => exact cb_ HR1_0.out HB.out); rintro e w18 ⟨v501, rfl, ho0, hb⟩; refine ⟨_, rfl, ?_⟩; have HO502 := Aside0.mk (Kd.R_lower ho0 (bz_ HB.out)); replace BK496 := kb_ BK496 hb; replace BK497 := kb_ BK497 hb; replace BK498 := kb_ BK498 hb; replace HB := hs_ HB hb; (try clear hb); (try clear ho0); obtain ⟨Ao19, co19, eo19⟩ := Kd.R_slice HO502.out; subst eo19) | ((with_reducible refine gate_callee (f := 79) rfl ?_); refine gm_ (some 13) Try.func79 #[.slice Ao19 t500.length co19] rfl ?_; (with_reducible refine (impl_judged.calls k _ _ t500 t503 t504 t507 _ ?side1 ?side2 A6.out).mono ?_); (case side1 => exact rr_ HO502); (case side2 => exact (Kd.R_reads' HO502.out).2.1); rintro e w20 ⟨v505, v508, rfl, ho0, ho1, hb⟩; refine ⟨_, rfl, ?_⟩; replace HO502 := rb_ HO502 hb; have HO506 := Aside0.mk (Kd.R_lower ho0 (bz_ HB.out)); have HO509 := Aside0.mk (Kd.R_lower ho1 (bz_ HB.out)); replace BK496 := kb_ BK496 hb; replace BK497 := kb_ BK497 hb; replace BK498 := kb_ BK498 hb; replace HB := hs_ HB hb; (try clear hb); (try clear ho0); (try clear ho1); obtain ⟨hcz21_0, hcz21_1, hcz21_2, hfz21_0, hfz21_1, hfz21_2⟩ := cz3_ BK498.out; obtain ⟨Ao22, co22, eo22⟩ := Kd.R_slice HO506.out; subst eo22; obtain ⟨Ao23, co23, eo23⟩ := Kd.R_slice HO509.out; subst eo23))
  refine bodyPost_ret (results_cell_row rfl _ _ gb498 40 #[.int .i64 t503, .slice Ao22 t504.length co22, .slice Ao23 t507.length co23] (0, 0) _ rfl (by (with_reducible repeat (first | refine blk_drewN ?_ _ | refine blk_drew ?_ | refine blk_alloc ?_ _)); refine blk_put (cs := #[.int .i64 t503, .slice Ao22 t504.length co22, .slice none 0 0]) ?_ 2 _ rfl; (with_reducible repeat (first | refine blk_drewN ?_ _ | refine blk_drew ?_ | refine blk_alloc ?_ _)); refine blk_put (cs := #[.int .i64 t503, .slice none 0 0, .slice none 0 0]) ?_ 1 _ rfl; (with_reducible repeat (first | refine blk_drewN ?_ _ | refine blk_drew ?_ | refine blk_alloc ?_ _)); refine blk_put (cs := #[.int .i64 0, .slice none 0 0, .slice none 0 0]) ?_ 0 _ rfl; (with_reducible repeat (first | refine blk_drewN ?_ _ | refine blk_drew ?_ | refine blk_alloc ?_ _)); exact BK498.out) Try.underlying40 rfl (by kernel_rfl)) rfl ?_
  exact ⟨_, _, fin_, rm_ (Kd.R_types HO506.out BK498.out (by decide)) (fun _ hk => hk.1), rm_ (Kd.R_types HO509.out BK498.out (by decide)) (fun _ hk => hk.1), bb_ HB.out⟩
 ·replace c4 := Bool.eq_false_iff.mpr c4
  subst c4
  rw [if_neg (show ¬ (false = true) by decide)] at H
  simp only [Option.some.injEq, Prod.mk.injEq] at H
  obtain ⟨rfl, rfl, rfl⟩ := H
  go_enter Try.func27, Try.ntmps27
  go_wp2_with (first | ((with_reducible refine gate_dst (N := 2) rfl ?_); refine box_event ?hg (N := 2) ?hd (cs := #[.int .i64 a0_0, .int .i64 a0_1, .slice A0_2 l0_2.length c0_2]) (t := 44) ?hr ?_; (case hd => rfl); (case hg => rfl); (case hr => first | (go_simp; done) | (go_simp; rfl)); intro gb496 hg w24 hbox hb; have BK496 := Aside0.mk (hbox); have GW496 := gw_ hg HB; replace HB := hs_ HB hb; clear hb hbox hg) | ((with_reducible refine gate_dst (N := 3) rfl ?_); refine box_event ?hg (N := 3) ?hd (cs := #[.slice A1_0 l1_0.length c1_0]) (t := 46) ?hr ?_; (case hd => rfl); (case hg => rfl); (case hr => first | (go_simp; done) | (go_simp; rfl)); intro gb497 hg w25 hbox hb; have BK497 := Aside0.mk (hbox); have GW497 := gw_ hg HB; replace HB := hs_ HB hb; have NB496_497 := nl_ hg BK496; have NB497_496 := ng_ hg BK496; replace BK496 := kb_ BK496 hb; clear hb hbox hg) | ((with_reducible refine gate_dst (N := 4) rfl ?_); refine box_event ?hg (N := 4) ?hd (cs := #[.int .i64 0, .slice none 0 0, .slice none 0 0]) (t := 40) ?hr ?_; (case hd => rfl); (case hg => rfl); (case hr => first | (go_simp; done) | (go_simp; rfl)); intro gb498 hg w26 hbox hb; have BK498 := Aside0.mk (hbox); have GW498 := gw_ hg HB; replace HB := hs_ HB hb; have NB496_498 := nl_ hg BK496; have NB498_496 := ng_ hg BK496; replace BK496 := kb_ BK496 hb; have NB497_498 := nl_ hg BK497; have NB498_497 := ng_ hg BK497; replace BK497 := kb_ BK497 hb; clear hb hbox hg; have hnb27 := NB496_497.out; have hnc27 := NB497_496.out; have hnb28 := NB496_498.out; have hnc28 := NB498_496.out; obtain ⟨hcz29_0, hcz29_1, hcz29_2, hfz29_0, hfz29_1, hfz29_2⟩ := cz3_ BK496.out; have hnb30 := NB497_498.out; have hnc30 := NB498_497.out; obtain ⟨hcz31_0, hfz31_0⟩ := cz1_ BK497.out) | ((with_reducible refine gate_callee (f := 78) rfl ?_); refine gm_ (some 7) Try.func78 #[.agg #[.int .i64 a0_0, .int .i64 a0_1, .slice A0_2 l0_2.length c0_2], .agg #[.slice A1_0 l1_0.length c1_0]] rfl ?_; (with_reducible refine (impl_TableOk.calls k a0_0 a0_1 _ _ l0_2 _ _ l1_0 false _ ?side1 HC0_2.out ?side3 HC1_0.out A3.out).mono ?_); (case side1 => exact cb_ HR0_2.out HB.out); (case side3 => exact cb_ HR1_0.out HB.out); rintro e w32 ⟨rfl, hb⟩; refine ⟨_, rfl, ?_⟩; replace BK496 := kb_ BK496 hb; replace BK497 := kb_ BK497 hb; replace BK498 := kb_ BK498 hb; replace HB := hs_ HB hb; (try clear hb); obtain ⟨hcz33_0, hcz33_1, hcz33_2, hfz33_0, hfz33_1, hfz33_2⟩ := cz3_ BK498.out))
  refine bodyPost_ret (results_cell_row rfl _ _ gb498 40 #[.int .i64 0, .slice none 0 0, .slice none 0 0] (0, 0) _ rfl (by (with_reducible repeat (first | refine blk_drewN ?_ _ | refine blk_drew ?_ | refine blk_alloc ?_ _)); refine blk_put (cs := #[.int .i64 0, .slice none 0 0, .slice none 0 0]) ?_ 2 _ rfl; (with_reducible repeat (first | refine blk_drewN ?_ _ | refine blk_drew ?_ | refine blk_alloc ?_ _)); refine blk_put (cs := #[.int .i64 0, .slice none 0 0, .slice none 0 0]) ?_ 1 _ rfl; (with_reducible repeat (first | refine blk_drewN ?_ _ | refine blk_drew ?_ | refine blk_alloc ?_ _)); refine blk_put (cs := #[.int .i64 0, .slice none 0 0, .slice none 0 0]) ?_ 0 _ rfl; (with_reducible repeat (first | refine blk_drewN ?_ _ | refine blk_drew ?_ | refine blk_alloc ?_ _)); exact BK498.out) Try.underlying40 rfl (by kernel_rfl)) rfl ?_
  exact ⟨_, _, fin_, by first | exact Kd.R_nil _ _ _ _ _ | exact Kd.N_nil _ _ _ _ _ | exact Kd.V_nil _ _ _ _ _ | exact Kd.Q_nil _ _ _ _ _ | exact Kd.S_nil _ _ _ _ _, by first | exact Kd.R_nil _ _ _ _ _ | exact Kd.N_nil _ _ _ _ _ | exact Kd.V_nil _ _ _ _ _ | exact Kd.Q_nil _ _ _ _ _ | exact Kd.S_nil _ _ _ _ _, bb_ HB.out⟩

/-! ### laws_eqIntS: function 38 -/
def laws_eqIntS.l0 : Nat → List Int → List Int → Int → Option (Bool)
 | 0, _, _, _ => none
 | k + 1, x0, x1, x5 => if x5 < (x0.length : Int) then (if 0 ≤ x5 then (if x5 < (x1.length : Int) then (if (rd x0 x5) = (rd x1 x5) then (laws_eqIntS.l0 k x0 x1 (wrap64 (x5 + 1))) else (none)) else (none)) else (none)) else (some true)
def laws_eqIntS.f (k : Nat) (l0 : List Int) (l1 : List Int) : Option (Bool) := if (l0.length : Int) = (l1.length : Int) then (laws_eqIntS.l0 k l0 l1 0) else (none)
theorem laws_eqIntS.mono_l : ∀ k, (∀ y0 y1 y2, LeO (laws_eqIntS.l0 k y0 y1 y2) (laws_eqIntS.l0 (k + 1) y0 y1 y2))
 | 0 => fun _ _ _ r h => by simp [laws_eqIntS.l0] at h
 | k + 1 => by
  have ih0 := laws_eqIntS.mono_l k
  ·intro y0 y1 y2
   unfold laws_eqIntS.l0
   repeat' (with_reducible first | exact ih0 .. | exact LeO.refl .. | exact LeO.none .. | refine LeO.ite ?_ ?_ | refine LeO.bind ?_ (fun _ => ?_))
theorem laws_eqIntS.mono : ∀ a0 a1 k, LeO (laws_eqIntS.f k a0 a1) (laws_eqIntS.f (k + 1) a0 a1) := by
 intro a0 a1 k
 have ih0 := laws_eqIntS.mono_l k
 unfold laws_eqIntS.f
 repeat' (with_reducible first | exact ih0 .. | exact LeO.refl .. | exact LeO.none .. | refine LeO.ite ?_ ?_ | refine LeO.bind ?_ (fun _ => ?_))
theorem laws_eqIntS.calls (k : Nat) (A0 : Option Addr) (c0 : Nat) (l0 : List Int) (A1 : Option Addr) (c1 : Nat) (l1 : List Int) (r : Bool) (w : World) (hr0 : Kd.C (Kd.int .i64) w A0 l0.length l0) (hc0 : l0.length ≤ c0) (hr1 : Kd.C (Kd.int .i64) w A1 l1.length l1) (hc1 : l1.length ≤ c1) (h : laws_eqIntS.f k l0 l1 = some r) :
  Calls Try.prog 38 #[.slice A0 l0.length c0, .slice A1 l1.length c1] w fun e w' => e = .returned (.bool r) ∧ Drawn0 w w' := by
 have HR0 := Aside0.mk hr0
 have HC0 := Aside0.mk hc0
 clear hr0 hc0
 have HR1 := Aside0.mk hr1
 have HC1 := Aside0.mk hc1
 clear hr1 hc1
 have H : (if (l0.length : Int) = (l1.length : Int) then (laws_eqIntS.l0 k l0 l1 0) else (none)) = some r := h
 clear h
 by_cases c3 : (l0.length : Int) = (l1.length : Int)
 ·rw [if_pos c3] at H
  have c3b0 : ((l0.length : Int) == (l1.length : Int)) = true := beq_iff_eq.mpr c3
  have c3b1 : ((l0.length : Int) != (l1.length : Int)) = false := bne_eq_false_iff_eq.mpr c3
  have c3b2 : (l0.length == l1.length) = true := by first | simpa using c3 | (simp at c3 ⊢; omega)
  clear c3
  have H' := Aside0.mk H
  clear H
  go_enter Try.func38, Try.ntmps38
  go_wp2
  repeat (go_quiet (fail); try go_wp2)
  go_loopg [5] k (fun kq v5 w' => ∃ (x5_1 : Int), v5 = .int .i64 x5_1 ∧ Aside0 (laws_eqIntS.l0 kq l0 l1 x5_1 = some r) ∧ Aside0 (kq ≤ k) ∧ Drawn0 w w')
  case atStart => exact ⟨(0), ef_, H', ⟨Nat.le_refl _⟩, by repeat (first | exact Drawn0.refl _ | apply Drawn0.step)⟩
  clear H'
  try clear c3
  try clear c3b0
  try clear c3b1
  try clear c3b2
  obtain ⟨x5_1, rfl, HA, HK1, ⟨m1, rfl⟩⟩ := hrel
  obtain _ | k1 := gk
  ·exact absurd HA.out (by simp [laws_eqIntS.l0])
  have H := HA.out
  clear HA
  simp only [laws_eqIntS.l0] at H
  by_cases c4 : x5_1 < (l0.length : Int)
  rotate_left
  ·rw [if_neg c4] at H
   have c4b0 : decide (x5_1 < (l0.length : Int)) = false := decide_eq_false c4
   clear c4
   obtain rfl := Option.some.inj H
   go_wp2
   repeat (go_quiet (fail); try go_wp2)
   go_ret
   exact ⟨by first | rfl | (simp; done) | (simp [*]; done), by repeat (first | exact Drawn0.refl _ | apply Drawn0.step)⟩
  rw [if_pos c4] at H
  have c4b0 : decide (x5_1 < (l0.length : Int)) = true := decide_eq_true c4
  clear c4
  by_cases c5 : 0 ≤ x5_1
  rotate_left
  ·rw [if_neg c5] at H
   exact absurd H (by simp)
  rw [if_pos c5] at H
  have c5b0 : decide (0 ≤ x5_1) = true := decide_eq_true c5
  clear c5
  by_cases c6 : x5_1 < (l1.length : Int)
  rotate_left
  ·rw [if_neg c6] at H
   exact absurd H (by simp)
  rw [if_pos c6] at H
  have c6b0 : decide (x5_1 < (l1.length : Int)) = true := decide_eq_true c6
  clear c6
  by_cases c7 : (rd l0 x5_1) = (rd l1 x5_1)
  rotate_left
  ·rw [if_neg c7] at H
   exact absurd H (by simp)
  rw [if_pos c7] at H
  have c7b0 : ((rd l0 x5_1) == (rd l1 x5_1)) = true := beq_iff_eq.mpr c7
  have c7b1 : ((rd l0 x5_1) != (rd l1 x5_1)) = false := bne_eq_false_iff_eq.mpr c7
  clear c7
  have H' := Aside0.mk H
  clear H
  have p510 : 0 ≤ (x5_1 : Int) := of_decide_eq_true dg_
  have q510 : x5_1 < (l0.length : Int) := of_decide_eq_true dg_
  obtain ⟨ad510, e510, hx510_0⟩ := Kd.at_int HR0.out x5_1 p510 q510
  cases e510
  replace p510 := eq_true p510
  replace q510 := eq_true q510
  have p511 : 0 ≤ (x5_1 : Int) := of_decide_eq_true dg_
  have q511 : x5_1 < (l1.length : Int) := of_decide_eq_true dg_
  obtain ⟨ad511, e511, hx511_0⟩ := Kd.at_int HR1.out x5_1 p511 q511
  cases e511
  replace p511 := eq_true p511
  replace q511 := eq_true q511
  go_wp2
  repeat (go_quiet (fail); try go_wp2)
  go_roundg k1
  case measure => have := HK1.out; omega
  case rel => exact ⟨(wrap64 (x5_1 + 1)), ef_, H', ⟨by have := HK1.out; omega⟩, by repeat (first | exact Drawn0.refl _ | apply Drawn0.step)⟩
 ·rw [if_neg c3] at H
  exact absurd H (by simp)

/-! ### laws_eqVerdict: function 28 -/
def laws_eqVerdict.f (k : Nat) (a0_0 : Int) (l0_1 : List Int) (l0_2 : List Int) (a1_0 : Int) (l1_1 : List Int) (l1_2 : List Int) : Option (Bool) := if a0_0 = a1_0 then ((laws_eqIntS.f k l0_1 l1_1).bind fun t514 => (if t514 = true then ((laws_eqIntS.f k l0_2 l1_2).bind fun t515 => (if t515 = true then (some true) else (none))) else (none))) else (none)
theorem laws_eqVerdict.mono : ∀ a0 a1 a2 a3 a4 a5 k, LeO (laws_eqVerdict.f k a0 a1 a2 a3 a4 a5) (laws_eqVerdict.f (k + 1) a0 a1 a2 a3 a4 a5) := by
 intro a0 a1 a2 a3 a4 a5 k
 unfold laws_eqVerdict.f
 repeat' (with_reducible first | exact laws_eqIntS.mono .. | exact LeO.refl .. | exact LeO.none .. | refine LeO.ite ?_ ?_ | refine LeO.bind ?_ (fun _ => ?_))
theorem laws_eqVerdict.calls (k : Nat) (a0_0 : Int) (A0_1 : Option Addr) (c0_1 : Nat) (l0_1 : List Int) (A0_2 : Option Addr) (c0_2 : Nat) (l0_2 : List Int) (a1_0 : Int) (A1_1 : Option Addr) (c1_1 : Nat) (l1_1 : List Int) (A1_2 : Option Addr) (c1_2 : Nat) (l1_2 : List Int) (r : Bool) (w : World) (hr0_1 : Kd.C (Kd.int .i64) w A0_1 l0_1.length l0_1) (hc0_1 : l0_1.length ≤ c0_1) (hr0_2 : Kd.C (Kd.int .i64) w A0_2 l0_2.length l0_2) (hc0_2 : l0_2.length ≤ c0_2) (hr1_1 : Kd.C (Kd.int .i64) w A1_1 l1_1.length l1_1) (hc1_1 : l1_1.length ≤ c1_1) (hr1_2 : Kd.C (Kd.int .i64) w A1_2 l1_2.length l1_2) (hc1_2 : l1_2.length ≤ c1_2) (h : laws_eqVerdict.f k a0_0 l0_1 l0_2 a1_0 l1_1 l1_2 = some r) :
  Calls Try.prog 28 #[.agg #[.int .i64 a0_0, .slice A0_1 l0_1.length c0_1, .slice A0_2 l0_2.length c0_2], .agg #[.int .i64 a1_0, .slice A1_1 l1_1.length c1_1, .slice A1_2 l1_2.length c1_2]] w fun e w' => e = .returned (.bool r) ∧ Below w.heap.size w w' := by
 have hu40 := Try.underlying40
 have HR0_1 := Aside0.mk hr0_1
 have HC0_1 := Aside0.mk hc0_1
 clear hr0_1 hc0_1
 have HR0_2 := Aside0.mk hr0_2
 have HC0_2 := Aside0.mk hc0_2
 clear hr0_2 hc0_2
 have HR1_1 := Aside0.mk hr1_1
 have HC1_1 := Aside0.mk hc1_1
 clear hr1_1 hc1_1
 have HR1_2 := Aside0.mk hr1_2
 have HC1_2 := Aside0.mk hc1_2
 clear hr1_2 hc1_2
 have HB := Aside0.mk (Below.refl w.heap.size w)
 have H : (if a0_0 = a1_0 then ((laws_eqIntS.f k l0_1 l1_1).bind fun t514 => (if t514 = true then ((laws_eqIntS.f k l0_2 l1_2).bind fun t515 => (if t515 = true then (some true) else (none))) else (none))) else (none)) = some r := h
 clear h
 by_cases c3 : a0_0 = a1_0
 ·rw [if_pos c3] at H
  have c3b0 : (a0_0 == a1_0) = true := beq_iff_eq.mpr c3
  have c3b1 : (a0_0 != a1_0) = false := bne_eq_false_iff_eq.mpr c3
  clear c3
  obtain ⟨t514, A4, H⟩ := bi_ H
  by_cases c5 : t514 = true
  rotate_left
  ·replace c5 := Bool.eq_false_iff.mpr c5
   subst c5
   rw [if_neg (show ¬ (false = true) by decide)] at H
   exact absurd H (by simp)
  subst c5
  rw [if_pos rfl] at H
  obtain ⟨t515, A6, H⟩ := bi_ H
  by_cases c7 : t515 = true
  rotate_left
  ·replace c7 := Bool.eq_false_iff.mpr c7
   subst c7
   rw [if_neg (show ¬ (false = true) by decide)] at H
   exact absurd H (by simp)
  subst c7
  rw [if_pos rfl] at H
  obtain rfl := Option.some.inj H
  go_enter Try.func28, Try.ntmps28
  go_wp2_with (first | ((with_reducible refine gate_dst (N := 2) rfl ?_); refine box_event ?hg (N := 2) ?hd (cs := #[.int .i64 a0_0, .slice A0_1 l0_1.length c0_1, .slice A0_2 l0_2.length c0_2]) (t := 40) ?hr ?_; (case hd => rfl); (case hg => rfl); (case hr => first | (go_simp; done) | (go_simp; rfl)); intro gb512 hg w8 hbox hb; have BK512 := Aside0.mk (hbox); have GW512 := gw_ hg HB; replace HB := hs_ HB hb; clear hb hbox hg) | ((with_reducible refine gate_dst (N := 3) rfl ?_); refine box_event ?hg (N := 3) ?hd (cs := #[.int .i64 a1_0, .slice A1_1 l1_1.length c1_1, .slice A1_2 l1_2.length c1_2]) (t := 40) ?hr ?_; (case hd => rfl); (case hg => rfl); (case hr => first | (go_simp; done) | (go_simp; rfl)); intro gb513 hg w9 hbox hb; have BK513 := Aside0.mk (hbox); have GW513 := gw_ hg HB; replace HB := hs_ HB hb; have NB512_513 := nl_ hg BK512; have NB513_512 := ng_ hg BK512; replace BK512 := kb_ BK512 hb; clear hb hbox hg; have hnb10 := NB512_513.out; have hnc10 := NB513_512.out; obtain ⟨hcz11_0, hcz11_1, hcz11_2, hfz11_0, hfz11_1, hfz11_2⟩ := cz3_ BK512.out; obtain ⟨hcz12_0, hcz12_1, hcz12_2, hfz12_0, hfz12_1, hfz12_2⟩ := cz3_ BK513.out) | ((with_reducible refine gate_callee (f := 38) rfl ?_); refine gm_ (some 14) Try.func38 #[.slice A0_1 l0_1.length c0_1, .slice A1_1 l1_1.length c1_1] rfl ?_; (with_reducible refine (laws_eqIntS.calls k _ _ l0_1 _ _ l1_1 true _ ?side1 HC0_1.out ?side3 HC1_1.out A4.out).mono ?_); (case side1 => exact cb_ HR0_1.out HB.out); (case side3 => exact cb_ HR1_1.out HB.out); rintro e w' ⟨rfl, ⟨nd, rfl⟩⟩; refine ⟨_, rfl, ?_⟩) | ((with_reducible refine gate_callee (f := 38) rfl ?_); refine gm_ (some 20) Try.func38 #[.slice A0_2 l0_2.length c0_2, .slice A1_2 l1_2.length c1_2] rfl ?_; (with_reducible refine (laws_eqIntS.calls k _ _ l0_2 _ _ l1_2 true _ ?side1 HC0_2.out ?side3 HC1_2.out A6.out).mono ?_); (case side1 => exact cb_ HR0_2.out HB.out); (case side3 => exact cb_ HR1_2.out HB.out); rintro e w' ⟨rfl, ⟨nd, rfl⟩⟩; refine ⟨_, rfl, ?_⟩))
  go_ret
  exact ⟨fin_, bb_ HB.out⟩
 ·rw [if_neg c3] at H
  exact absurd H (by simp)

/-! ### laws_eqGrid: function 80 -/
def laws_eqGrid.f (a0_0 : Int) (a0_1 : Int) (a1_0 : Int) (a1_1 : Int) : Option (Bool) := if a0_0 = a1_0 then (if a0_1 = a1_1 then (some true) else (none)) else (none)
theorem laws_eqGrid.calls (a0_0 : Int) (a0_1 : Int) (a1_0 : Int) (a1_1 : Int) (r : Bool) (w : World) (h : laws_eqGrid.f a0_0 a0_1 a1_0 a1_1 = some r) :
  Calls Try.prog 80 #[.agg #[.int .i64 a0_0, .int .i64 a0_1], .agg #[.int .i64 a1_0, .int .i64 a1_1]] w fun e w' => e = .returned (.bool r) ∧ Below w.heap.size w w' := by
 have hu42 := Try.underlying42
 have HB := Aside0.mk (Below.refl w.heap.size w)
 have H : (if a0_0 = a1_0 then (if a0_1 = a1_1 then (some true) else (none)) else (none)) = some r := h
 clear h
 by_cases c3 : a0_0 = a1_0
 ·rw [if_pos c3] at H
  have c3b0 : (a0_0 == a1_0) = true := beq_iff_eq.mpr c3
  have c3b1 : (a0_0 != a1_0) = false := bne_eq_false_iff_eq.mpr c3
  clear c3
  by_cases c4 : a0_1 = a1_1
  rotate_left
  ·rw [if_neg c4] at H
   exact absurd H (by simp)
  rw [if_pos c4] at H
  have c4b0 : (a0_1 == a1_1) = true := beq_iff_eq.mpr c4
  have c4b1 : (a0_1 != a1_1) = false := bne_eq_false_iff_eq.mpr c4
  clear c4
  obtain rfl := Option.some.inj H
  go_enter Try.func80, Try.ntmps80
  go_wp2_with (first | ((with_reducible refine gate_dst (N := 2) rfl ?_); refine box_event ?hg (N := 2) ?hd (cs := #[.int .i64 a0_0, .int .i64 a0_1]) (t := 42) ?hr ?_; (case hd => rfl); (case hg => rfl); (case hr => first | (go_simp; done) | (go_simp; rfl)); intro gb516 hg w5 hbox hb; have BK516 := Aside0.mk (hbox); have GW516 := gw_ hg HB; replace HB := hs_ HB hb; clear hb hbox hg) | ((with_reducible refine gate_dst (N := 3) rfl ?_); refine box_event ?hg (N := 3) ?hd (cs := #[.int .i64 a1_0, .int .i64 a1_1]) (t := 42) ?hr ?_; (case hd => rfl); (case hg => rfl); (case hr => first | (go_simp; done) | (go_simp; rfl)); intro gb517 hg w6 hbox hb; have BK517 := Aside0.mk (hbox); have GW517 := gw_ hg HB; replace HB := hs_ HB hb; have NB516_517 := nl_ hg BK516; have NB517_516 := ng_ hg BK516; replace BK516 := kb_ BK516 hb; clear hb hbox hg; have hnb7 := NB516_517.out; have hnc7 := NB517_516.out; obtain ⟨hcz8_0, hcz8_1, hfz8_0, hfz8_1⟩ := cz2_ BK516.out; obtain ⟨hcz9_0, hcz9_1, hfz9_0, hfz9_1⟩ := cz2_ BK517.out))
  go_ret
  exact ⟨fin_, bb_ HB.out⟩
 ·rw [if_neg c3] at H
  exact absurd H (by simp)

end Go.Proofs.Ytimdefbpoddoaaa.PFnExactCheckTable
-- thin
