/- Each function that the law comes to, as a plain function, with the proof that the call in the model gives what that function says (written by a program of this session out of the translation). No condition. -/
import Derived.Test.YtimdefbpoddoaaaPFnSplitSafex0
import Derived.Test.YtimdefbpoddoaaaPFnSplitSafex1
import Derived.Test.YtimdefbpoddoaaaPFnSplitSafex3
import Derived.Test.YtimdefbpoddoaaaPFnSplitSafex5
import Derived.Test.YtimdefbpoddoaaaPFnSplitSafex8
import Derived.Test.YtimdefbpoddoaaaPFnSplitSafex9
import Derived.Test.YtimdefbpoddoaaaPFnSplitSafex11
namespace Go.Proofs.Ytimdefbpoddoaaa.PFnSplitSafe
open Go.RowKit Go.Proofs.YtimdefbpoddoaaaW.PrintWords Go.Proofs.YtimdefbpoddoaaaW.PrintLast Go.Proofs.YtimdefbpoddoaaaW.PrintMore
attribute [local go_sem] max2_int min2_int max_two min_two max_three min_three max_four min_four   -- for this text's walks alone
set_option linter.unusedVariables false
set_option linter.unusedSimpArgs false

/-! ### impl_OrderOf: function 120 -/
mutual
def impl_OrderOf.l0 : Nat → List (S94) → List Int → Int → Option (List Int × Bool)
 | 0, _, _, _ => none
 | k + 1, x0, x4, x17 => if x17 < 128 then ((slices_Clone_int_int.f x4).bind fun t325 => (impl_OrderOf.l1 k x0 x4 x17 t325 x17 x4 (x4.length : Int) 0)) else (some (x4, true))
def impl_OrderOf.l1 : Nat → List (S94) → List Int → Int → List Int → Int → List Int → Int → Int → Option (List Int × Bool)
 | 0, _, _, _, _, _, _, _, _ => none
 | k + 1, x0, x4, x5, x6, x17, x22, x23, x24 => if x24 < x23 then (if 0 ≤ x24 then (if x24 < (x22.length : Int) then (if (rd x22 x24) < 0 then (if x24 < (x6.length : Int) then (impl_OrderOf.l1 k x0 x4 x5 (x6.set (x24 : Int).toNat (-2)) x17 x22 x23 (wrap64 (x24 + 1))) else (none)) else (impl_OrderOf.l1 k x0 x4 x5 x6 x17 x22 x23 (wrap64 (x24 + 1)))) else (none)) else (none)) else (impl_OrderOf.l2 k x0 x4 x5 x6 x17 x0 (x0.length : Int) 0)
def impl_OrderOf.l2 : Nat → List (S94) → List Int → Int → List Int → Int → List (S94) → Int → Int → Option (List Int × Bool)
 | 0, _, _, _, _, _, _, _, _ => none
 | k + 1, x0, x4, x5, x6, x17, x35, x36, x37 => if x37 < x36 then (if 0 ≤ x37 then (if x37 < (x35.length : Int) then (if 0 ≤ ((rd_T94 x35 x37).f0) then (if ((rd_T94 x35 x37).f0) < (x4.length : Int) then (if (rd x4 ((rd_T94 x35 x37).f0)) < 0 then (if 0 ≤ ((rd_T94 x35 x37).f1) then (if ((rd_T94 x35 x37).f1) < (x4.length : Int) then (if (rd x4 ((rd_T94 x35 x37).f1)) < 0 then (if ((rd_T94 x35 x37).f1) < (x6.length : Int) then (impl_OrderOf.l2 k x0 x4 x5 (x6.set (((rd_T94 x35 x37).f1) : Int).toNat (-1)) x17 x35 x36 (wrap64 (x37 + 1))) else (none)) else (impl_OrderOf.l2 k x0 x4 x5 x6 x17 x35 x36 (wrap64 (x37 + 1)))) else (none)) else (none)) else (impl_OrderOf.l2 k x0 x4 x5 x6 x17 x35 x36 (wrap64 (x37 + 1)))) else (none)) else (none)) else (none)) else (none)) else ((impl_nextRanked.f k x0 x6).bind fun t335 => (if t335 < 0 then (some (([] : List Int), false)) else (if 0 ≤ t335 then (if t335 < (x4.length : Int) then (impl_OrderOf.l0 k x0 (x4.set (t335 : Int).toNat x5) (wrap64 (x17 + 1))) else (none)) else (none))))
end
def impl_OrderOf.f (k : Nat) (l0 : List (S94)) : Option (List Int × Bool) := (impl_DependsOk.f k l0).bind fun t318 => (if t318 = true then ((slices_Repeat_int_int.f (([(-1)] : List Int)) 128).bind fun t322 => (impl_OrderOf.l0 k l0 t322 0)) else (some (([] : List Int), false)))
theorem impl_OrderOf.mono_l : ∀ k, (∀ y0 y1 y2, LeO (impl_OrderOf.l0 k y0 y1 y2) (impl_OrderOf.l0 (k + 1) y0 y1 y2)) ∧ (∀ y0 y1 y2 y3 y4 y5 y6 y7, LeO (impl_OrderOf.l1 k y0 y1 y2 y3 y4 y5 y6 y7) (impl_OrderOf.l1 (k + 1) y0 y1 y2 y3 y4 y5 y6 y7)) ∧ (∀ y0 y1 y2 y3 y4 y5 y6 y7, LeO (impl_OrderOf.l2 k y0 y1 y2 y3 y4 y5 y6 y7) (impl_OrderOf.l2 (k + 1) y0 y1 y2 y3 y4 y5 y6 y7))
 | 0 => ⟨fun _ _ _ r h => by simp [impl_OrderOf.l0] at h, fun _ _ _ _ _ _ _ _ r h => by simp [impl_OrderOf.l1] at h, fun _ _ _ _ _ _ _ _ r h => by simp [impl_OrderOf.l2] at h⟩
 | k + 1 => by
  obtain ⟨ih0, ih1, ih2⟩ := impl_OrderOf.mono_l k
  refine ⟨?_, ?_, ?_⟩
  ·intro y0 y1 y2
   unfold impl_OrderOf.l0
   repeat' first
   | (with_reducible exact ih0 _ _ _)
   | (with_reducible exact ih1 _ _ _ _ _ _ _ _)
   | (with_reducible exact ih2 _ _ _ _ _ _ _ _)
   | (with_reducible exact impl_DependsOk.mono _ _)
   | (with_reducible exact impl_nextRanked.mono _ _ _)
   | (with_reducible exact LeO.refl _)
   | (with_reducible exact LeO.none _)
   | (with_reducible refine LeO.ite ?_ ?_)
   | (with_reducible refine LeO.bind ?_ (fun _ => ?_))
   | exact ih0 _ _ _
   | exact ih1 _ _ _ _ _ _ _ _
   | exact ih2 _ _ _ _ _ _ _ _
   | exact impl_DependsOk.mono _ _
   | exact impl_nextRanked.mono _ _ _
   | exact LeO.none _
   | refine LeO.ite ?_ ?_
   | refine LeO.bind ?_ (fun _ => ?_)
  ·intro y0 y1 y2 y3 y4 y5 y6 y7
   unfold impl_OrderOf.l1
   repeat' first
   | (with_reducible exact ih0 _ _ _)
   | (with_reducible exact ih1 _ _ _ _ _ _ _ _)
   | (with_reducible exact ih2 _ _ _ _ _ _ _ _)
   | (with_reducible exact impl_DependsOk.mono _ _)
   | (with_reducible exact impl_nextRanked.mono _ _ _)
   | (with_reducible exact LeO.refl _)
   | (with_reducible exact LeO.none _)
   | (with_reducible refine LeO.ite ?_ ?_)
   | (with_reducible refine LeO.bind ?_ (fun _ => ?_))
   | exact ih0 _ _ _
   | exact ih1 _ _ _ _ _ _ _ _
   | exact ih2 _ _ _ _ _ _ _ _
   | exact impl_DependsOk.mono _ _
   | exact impl_nextRanked.mono _ _ _
   | exact LeO.none _
   | refine LeO.ite ?_ ?_
   | refine LeO.bind ?_ (fun _ => ?_)
  ·intro y0 y1 y2 y3 y4 y5 y6 y7
   unfold impl_OrderOf.l2
   repeat' first
   | (with_reducible exact ih0 _ _ _)
   | (with_reducible exact ih1 _ _ _ _ _ _ _ _)
   | (with_reducible exact ih2 _ _ _ _ _ _ _ _)
   | (with_reducible exact impl_DependsOk.mono _ _)
   | (with_reducible exact impl_nextRanked.mono _ _ _)
   | (with_reducible exact LeO.refl _)
   | (with_reducible exact LeO.none _)
   | (with_reducible refine LeO.ite ?_ ?_)
   | (with_reducible refine LeO.bind ?_ (fun _ => ?_))
   | exact ih0 _ _ _
   | exact ih1 _ _ _ _ _ _ _ _
   | exact ih2 _ _ _ _ _ _ _ _
   | exact impl_DependsOk.mono _ _
   | exact impl_nextRanked.mono _ _ _
   | exact LeO.none _
   | refine LeO.ite ?_ ?_
   | refine LeO.bind ?_ (fun _ => ?_)
theorem impl_OrderOf.mono : ∀ a0 k, LeO (impl_OrderOf.f k a0) (impl_OrderOf.f (k + 1) a0) := by
 intro a0 k
 obtain ⟨ih0, ih1, ih2⟩ := impl_OrderOf.mono_l k
 unfold impl_OrderOf.f
 repeat' first
   | (with_reducible exact ih0 _ _ _)
   | (with_reducible exact ih1 _ _ _ _ _ _ _ _)
   | (with_reducible exact ih2 _ _ _ _ _ _ _ _)
   | (with_reducible exact impl_DependsOk.mono _ _)
   | (with_reducible exact impl_nextRanked.mono _ _ _)
   | (with_reducible exact LeO.refl _)
   | (with_reducible exact LeO.none _)
   | (with_reducible refine LeO.ite ?_ ?_)
   | (with_reducible refine LeO.bind ?_ (fun _ => ?_))
   | exact ih0 _ _ _
   | exact ih1 _ _ _ _ _ _ _ _
   | exact ih2 _ _ _ _ _ _ _ _
   | exact impl_DependsOk.mono _ _
   | exact impl_nextRanked.mono _ _ _
   | exact LeO.none _
   | refine LeO.ite ?_ ?_
   | refine LeO.bind ?_ (fun _ => ?_)
theorem impl_OrderOf.e0 {P : Prop} (h : P := by
 go_wp2_with (first | ((with_reducible refine gate_dst (N := 10) rfl ?_); refine box_event ?hg (N := 10) ?hd (cs := #[.int .i64 0, .int .i64 0]) (t := 94) ?hr ?_; (case hd => rfl); (case hg => rfl); (case hr => first | (go_simp; done) | (go_simp; rfl)); intro gb331 hg w_0 hbox hb; replace HO_4 := Aside0.mk (Kd.R_below (ra_ HO_4.out) hb); replace HO_6 := Aside0.mk (Kd.R_below (ra_ HO_6.out) hb); have BK331 := Aside0.mk (hbox); have GW331 := Aside0.mk ((by rw [hg]; exact (bz_ HB.out) : w.heap.size ≤ gb331)); have GE331 := Aside0.mk ((by rw [hg]; exact (bz_ HB.out) : w.heap.size ≤ gb331)); replace HB := Aside0.mk (bs_ HB.out hb); clear hb hbox hg; obtain ⟨hcz_0, hcz_1, hfz_0, hfz_1⟩ := cz2_ BK331.out; have p332 : 0 ≤ (((rd_T94 l0 x37_3).f0) : Int) := of_decide_eq_true dg_; have q332 : ((rd_T94 l0 x37_3).f0) < (x4_1.length : Int) := of_decide_eq_true dg_; obtain ⟨ad332, e332, hx332_0⟩ := Kd.at_int (Kd.R_reads' HO_4.out).2.2 ((rd_T94 l0 x37_3).f0) p332 q332; cases e332; have hn332_0 : ad332.block ≠ gb331 := Kd.own_blk (Kd.R_ne HO_4.out BK331.out (by decide)); have hn332_1 : ad332.block ≠ gb331 := Kd.own_blk (Kd.R_ne HO_4.out BK331.out (by decide)); replace hx332_0 := (cell_far (p := ⟨gb331, 0, none⟩) (by first | (rw [add_block]; exact hn332_0) | (show (Addr.add _ _).block ≠ _; rw [add_block]; exact hn332_0) | exact hn332_0) (.int .i64 ((rd_T94 l0 x37_3).f0))).trans hx332_0; replace hx332_0 := (cell_far (p := ⟨gb331, 1, none⟩) (by first | (rw [add_block]; exact hn332_1) | (show (Addr.add _ _).block ≠ _; rw [add_block]; exact hn332_1) | exact hn332_1) (.int .i64 ((rd_T94 l0 x37_3).f1))).trans hx332_0; clear hn332_0; clear hn332_1; replace p332 := eq_true p332; replace q332 := eq_true q332; have p333 : 0 ≤ (((rd_T94 l0 x37_3).f1) : Int) := of_decide_eq_true dg_; have q333 : ((rd_T94 l0 x37_3).f1) < (x4_1.length : Int) := of_decide_eq_true dg_; obtain ⟨ad333, e333, hx333_0⟩ := Kd.at_int (Kd.R_reads' HO_4.out).2.2 ((rd_T94 l0 x37_3).f1) p333 q333; obtain rfl : ad332 = ad333 := (by injection e333); have hn333_0 : ad332.block ≠ gb331 := Kd.own_blk (Kd.R_ne HO_4.out BK331.out (by decide)); have hn333_1 : ad332.block ≠ gb331 := Kd.own_blk (Kd.R_ne HO_4.out BK331.out (by decide)); replace hx333_0 := (cell_far (p := ⟨gb331, 0, none⟩) (by first | (rw [add_block]; exact hn333_0) | (show (Addr.add _ _).block ≠ _; rw [add_block]; exact hn333_0) | exact hn333_0) (.int .i64 ((rd_T94 l0 x37_3).f0))).trans hx333_0; replace hx333_0 := (cell_far (p := ⟨gb331, 1, none⟩) (by first | (rw [add_block]; exact hn333_1) | (show (Addr.add _ _).block ≠ _; rw [add_block]; exact hn333_1) | exact hn333_1) (.int .i64 ((rd_T94 l0 x37_3).f1))).trans hx333_0; clear hn333_0; clear hn333_1; replace p333 := eq_true p333; replace q333 := eq_true q333) | ((with_reducible refine gate_dst (N := 10) rfl ?_); refine box_event ?hg (N := 10) ?hd (cs := #[.int .i64 0, .int .i64 0]) (t := 94) ?hr ?_; (case hd => rfl); (case hg => rfl); (case hr => first | (go_simp; done) | (go_simp; rfl)); intro gb331 hg w_0 hbox hb; replace HO_4 := Aside0.mk (Kd.R_below (ra_ HO_4.out) hb); replace HO_6 := Aside0.mk (Kd.R_below (ra_ HO_6.out) hb); have BK331 := Aside0.mk (hbox); have GW331 := Aside0.mk ((by rw [hg]; exact (bz_ HB.out) : w.heap.size ≤ gb331)); have GE331 := Aside0.mk ((by rw [hg]; exact (bz_ HB.out) : w.heap.size ≤ gb331)); replace HB := Aside0.mk (bs_ HB.out hb); clear hb hbox hg; obtain ⟨hcz_0, hcz_1, hfz_0, hfz_1⟩ := cz2_ BK331.out; have p332 : 0 ≤ (((rd_T94 l0 x37_3).f0) : Int) := of_decide_eq_true dg_; have q332 : ((rd_T94 l0 x37_3).f0) < (x4_1.length : Int) := of_decide_eq_true dg_; obtain ⟨ad332, e332, hx332_0⟩ := Kd.at_int (Kd.R_reads' HO_4.out).2.2 ((rd_T94 l0 x37_3).f0) p332 q332; cases e332; have hn332_0 : ad332.block ≠ gb331 := Kd.own_blk (Kd.R_ne HO_4.out BK331.out (by decide)); have hn332_1 : ad332.block ≠ gb331 := Kd.own_blk (Kd.R_ne HO_4.out BK331.out (by decide)); replace hx332_0 := (cell_far (p := ⟨gb331, 0, none⟩) (by first | (rw [add_block]; exact hn332_0) | (show (Addr.add _ _).block ≠ _; rw [add_block]; exact hn332_0) | exact hn332_0) (.int .i64 ((rd_T94 l0 x37_3).f0))).trans hx332_0; replace hx332_0 := (cell_far (p := ⟨gb331, 1, none⟩) (by first | (rw [add_block]; exact hn332_1) | (show (Addr.add _ _).block ≠ _; rw [add_block]; exact hn332_1) | exact hn332_1) (.int .i64 ((rd_T94 l0 x37_3).f1))).trans hx332_0; clear hn332_0; clear hn332_1; replace p332 := eq_true p332; replace q332 := eq_true q332))
 go_roundg k3
 case measure => have := HK1.out; have := HK2.out; have := HK3.out; omega
 case rel => exact ⟨(x6_3), (wrap64 (x37_3 + 1)), ef_, H', ⟨by have := HK1.out; have := HK2.out; have := HK3.out; omega⟩, ⟨rm_ (Kd.R_types HO_4.out BK331.out (by decide)) (fun _ hk => hk.1)⟩, ⟨rm_ (Kd.R_types HO_6.out BK331.out (by decide)) (fun _ hk => hk.1)⟩, ⟨bb_ HB.out⟩⟩) : P := h
set_option maxHeartbeats 8000000 in
set_option maxRecDepth 100000 in
theorem impl_OrderOf.calls (k : Nat) (A0 : Option Addr) (c0 : Nat) (l0 : List (S94)) (r1 : List Int) (r2 : Bool) (w : World) (hr0 : Kd.C k94 w A0 l0.length l0) (hc0 : l0.length ≤ c0) (h : impl_OrderOf.f k l0 = some (r1, r2)) :
  Calls Try.prog 120 #[.slice A0 l0.length c0] w fun e w' => ∃ v0_ : Value, e = .returned (.tuple #[v0_, .bool r2]) ∧ Kd.R (Kd.int .i64) 3 w' w.heap.size (fun _ => True) v0_ r1 ∧ Below w.heap.size w w' := by
 have hu94 := Try.underlying94
 have HR0 := Aside0.mk hr0
 have HC0 := Aside0.mk hc0
 clear hr0 hc0
 have HB := Aside0.mk (Below.refl w.heap.size w)
 have H : ((impl_DependsOk.f k l0).bind fun t318 => (if t318 = true then ((slices_Repeat_int_int.f (([(-1)] : List Int)) 128).bind fun t322 => (impl_OrderOf.l0 k l0 t322 0)) else (some (([] : List Int), false)))) = some (r1, r2) := h
 clear h
 replace H := Option.bind_eq_some_iff.mp H
 obtain ⟨t318, A20, H⟩ := H
 try dsimp only at H
 have A2 := Aside0.mk A20
 clear A20
 by_cases c3 : t318 = true
 ·subst c3
  rw [if_pos rfl] at H
  obtain ⟨y319, hy319⟩ : ∃ y_ : List Int, y_ = (([(-1)] : List Int)) := ⟨_, rfl⟩
  replace H : ((slices_Repeat_int_int.f y319 128).bind fun t322 => (impl_OrderOf.l0 k l0 t322 0)) = some (r1, r2) := by first | (rw [hy319]; with_reducible exact H) | (have H2_ := (Option.bind_some _ _).symm.trans H; rw [hy319]; with_reducible exact H2_) | (have H2_ := (Option.bind_some _ _).symm.trans H; with_reducible exact H2_) | with_reducible exact H | (rw [hy319]; exact H) | exact H
  have Ny319 := Aside0.mk hy319
  clear hy319
  replace H := Option.bind_eq_some_iff.mp H
  obtain ⟨t322, A40, H⟩ := H
  try dsimp only at H
  have A4 := Aside0.mk A40
  clear A40
  have H' := Aside0.mk H
  clear H
  go_enter Try.func120, Try.ntmps120
  go_wp2_with (first | ((with_reducible refine gate_callee (f := 124) rfl ?_); refine gm_ (some 13) Try.func124 #[.slice A0 l0.length c0] rfl ?_; (with_reducible refine (impl_DependsOk.calls k _ _ l0 true _ ?side1 HC0.out A2.out).mono ?_); (case side1 => repeat (first | exact HR0.out | (with_reducible refine Kd.C_alloc ?_ _) | (with_reducible refine Kd.C_drewN ?_ _) | (with_reducible refine Kd.C_drew ?_))); rintro e w5 ⟨rfl, hb⟩; refine ⟨_, rfl, ?_⟩; replace HB := Aside0.mk (bs_ HB.out hb); (try clear hb)) | ((with_reducible refine gate_dst (N := 15) rfl ?_); refine Kd.R_lit (Kd.int .i64) _ 3 ?hg (N := 15) ?hd (xs := ([(-1)] : List Int)) (inner := [.int .i64 (-1)]) (ok := fun _ => True) (okp := fun _ => True) ?hr ?hp (fun _ hk => hk) trivial (Below.refl _ _) (Nat.le_refl _) (by simp) ?_; (case hd => rfl); (case hg => rfl); (case hr => first | (go_simp; done) | (go_simp; rfl)); (case hp => exact (Reps.one (show Kd.M (Kd.int .i64) _ _ _ (-1) [.int .i64 (-1)] from rfl) (Reps.none _ _))); intro v320 w6 ho7 hb hg_ hnew_; clear hg_ hnew_; (first | rw [← Ny319.out] at ho7 | (simp only [Int.reduceToNat] at ho7; rw [← Ny319.out] at ho7)); have HO321 := Aside0.mk (Kd.R_lower ho7 (bz_ HB.out)); replace HB := Aside0.mk (bs_ HB.out hb); clear hb ho7; obtain ⟨Ao8, co8, eo8⟩ := Kd.R_slice HO321.out; subst eo8) | ((with_reducible refine gate_callee (f := 145) rfl ?_); refine gm_ (some 16) Try.func145 #[.slice Ao8 y319.length co8, .int .i64 128] rfl ?_; (with_reducible refine (slices_Repeat_int_int.calls _ _ y319 128 t322 _ ?side1 ?side2 A4.out).mono ?_); (case side1 => repeat (first | exact (Kd.R_reads' HO321.out).2.2 | (with_reducible refine Kd.C_alloc ?_ _) | (with_reducible refine Kd.C_drewN ?_ _) | (with_reducible refine Kd.C_drew ?_))); (case side2 => exact (Kd.R_reads' HO321.out).2.1); rintro e w9 ⟨v323, rfl, ho0, hb⟩; refine ⟨_, rfl, ?_⟩; have HO324 := Aside0.mk (Kd.R_lower (Kd.R_new' ho0 (rl_ HO321.out)) (bz_ HB.out)); replace HO321 := Aside0.mk (Kd.R_elder' (ra_ HO321.out) (Kd.R_base ho0) hb); replace HB := Aside0.mk (bs_ HB.out hb); (try clear hb); (try clear ho0)))
  go_loopg [17] k (fun kq v17 w' => ∃ (x4_1 : List Int) (x17_1 : Int), v17 = .int .i64 x17_1 ∧ Aside0 (impl_OrderOf.l0 kq l0 x4_1 x17_1 = some (r1, r2)) ∧ Aside0 (kq ≤ k) ∧ Aside0 (Kd.R (Kd.int .i64) 3 w' w.heap.size (fun _ => True) v323 x4_1) ∧ Aside0 (Below w.heap.size w w'))
  case atStart => exact ⟨(t322), (0), ef_, H', ⟨Nat.le_refl _⟩, ⟨by (with_reducible repeat (first | apply Kd.R_alloc | apply Kd.R_drewN | apply Kd.R_drew)); exact Kd.R_mono HO324.out (fun _ hk => trivial)⟩, ⟨bb_ HB.out⟩⟩
  case round =>
   clear H'
   try clear c3
   obtain ⟨x4_1, x17_1, rfl, HA, HK1, HO_4, HB⟩ := hrel
   cases gk with
   | zero => exact absurd HA.out (by simp [impl_OrderOf.l0])
   | succ k1 =>
    have H := HA.out
    clear HA
    simp only [impl_OrderOf.l0] at H
    by_cases c10 : x17_1 < 128
    ·rw [if_pos c10] at H
     have c10b0 : decide (x17_1 < 128) = true := decide_eq_true c10
     clear c10
     replace H := Option.bind_eq_some_iff.mp H
     obtain ⟨t325, A110, H⟩ := H
     try dsimp only at H
     have A11 := Aside0.mk A110
     clear A110
     have H' := Aside0.mk H
     clear H
     obtain ⟨Ao12, co12, eo12⟩ := Kd.R_slice HO_4.out
     subst eo12
     go_wp2_with (first | ((with_reducible refine gate_callee (f := 146) rfl ?_); refine gm_ (some 21) Try.func146 #[.slice Ao12 x4_1.length co12] rfl ?_; (with_reducible refine (slices_Clone_int_int.calls _ _ x4_1 t325 _ ?side1 ?side2 A11.out).mono ?_); (case side1 => repeat (first | exact (Kd.R_reads' HO_4.out).2.2 | (with_reducible refine Kd.C_alloc ?_ _) | (with_reducible refine Kd.C_drewN ?_ _) | (with_reducible refine Kd.C_drew ?_))); (case side2 => exact (Kd.R_reads' HO_4.out).2.1); rintro e w13 ⟨v326, rfl, ho0, hb⟩; refine ⟨_, rfl, ?_⟩; have HO327 := Aside0.mk (Kd.R_lower (Kd.R_new' ho0 (rl_ HO_4.out)) (bz_ HB.out)); replace HO_4 := Aside0.mk (Kd.R_elder' (ra_ HO_4.out) (Kd.R_base ho0) hb); replace HB := Aside0.mk (bs_ HB.out hb); (try clear hb); (try clear ho0)))
     go_loopg [24] k1 (fun kq v24 w' => ∃ (x6_2 : List Int) (x24_2 : Int), v24 = .int .i64 x24_2 ∧ Aside0 (impl_OrderOf.l1 kq l0 x4_1 x17_1 x6_2 x17_1 x4_1 (x4_1.length : Int) x24_2 = some (r1, r2)) ∧ Aside0 (kq ≤ k1) ∧ Aside0 (Kd.R (Kd.int .i64) 3 w' w.heap.size (fun k_ => some k_ ≠ (v326 : Value).ownBlock) (.slice Ao12 x4_1.length co12) x4_1) ∧ Aside0 (Kd.R (Kd.int .i64) 3 w' w.heap.size (fun k_ => some k_ ≠ ((.slice Ao12 x4_1.length co12) : Value).ownBlock ∧ some k_ ≠ ((.slice Ao12 x4_1.length co12) : Value).ownBlock) v326 x6_2) ∧ Aside0 (Kd.R (Kd.int .i64) 3 w' w.heap.size (fun k_ => some k_ ≠ (v326 : Value).ownBlock) (.slice Ao12 x4_1.length co12) x4_1) ∧ Aside0 (Below w.heap.size w w'))
     case atStart => exact ⟨(t325), (0), ef_, H', ⟨Nat.le_refl _⟩, ⟨by (with_reducible repeat (first | apply Kd.R_alloc | apply Kd.R_drewN | apply Kd.R_drew)); exact Kd.R_mono HO_4.out (fun _ hk => hk.2)⟩, ⟨by (with_reducible repeat (first | apply Kd.R_alloc | apply Kd.R_drewN | apply Kd.R_drew)); exact Kd.R_mono HO327.out (fun _ hk => ⟨hk.2, hk.2⟩)⟩, ⟨by (with_reducible repeat (first | apply Kd.R_alloc | apply Kd.R_drewN | apply Kd.R_drew)); exact Kd.R_mono HO_4.out (fun _ hk => hk.2)⟩, ⟨bb_ HB.out⟩⟩
     case round =>
      clear H'
      try clear c3
      try clear c10
      try clear c10b0
      obtain ⟨x6_2, x24_2, rfl, HA, HK2, HO_4, HO_6, HO_22, HB⟩ := hrel
      cases gk with
      | zero => exact absurd HA.out (by simp [impl_OrderOf.l1])
      | succ k2 =>
       have H := HA.out
       clear HA
       simp only [impl_OrderOf.l1] at H
       by_cases c14 : x24_2 < (x4_1.length : Int)
       ·rw [if_pos c14] at H
        have c14b0 : decide (x24_2 < (x4_1.length : Int)) = true := decide_eq_true c14
        clear c14
        by_cases c15 : 0 ≤ x24_2
        ·rw [if_pos c15] at H
         have c15b0 : decide (0 ≤ x24_2) = true := decide_eq_true c15
         clear c15
         by_cases c16 : x24_2 < (x4_1.length : Int)
         ·rw [if_pos c16] at H
          have c16b0 : decide (x24_2 < (x4_1.length : Int)) = true := decide_eq_true c16
          clear c16
          by_cases c17 : (rd x4_1 x24_2) < 0
          ·rw [if_pos c17] at H
           have c17b0 : decide ((rd x4_1 x24_2) < 0) = true := decide_eq_true c17
           clear c17
           by_cases c18 : x24_2 < (x6_2.length : Int)
           ·rw [if_pos c18] at H
            have c18b0 : decide (x24_2 < (x6_2.length : Int)) = true := decide_eq_true c18
            clear c18
            obtain ⟨y329, hy329⟩ : ∃ y_ : List Int, y_ = (x6_2.set (x24_2 : Int).toNat (-2)) := ⟨_, rfl⟩
            replace H : (impl_OrderOf.l1 k2 l0 x4_1 x17_1 y329 x17_1 x4_1 (x4_1.length : Int) (wrap64 (x24_2 + 1))) = some (r1, r2) := by first | (rw [hy329]; with_reducible exact H) | (have H2_ := (Option.bind_some _ _).symm.trans H; rw [hy329]; with_reducible exact H2_) | (have H2_ := (Option.bind_some _ _).symm.trans H; with_reducible exact H2_) | with_reducible exact H | (rw [hy329]; exact H) | exact H
            have Ny329 := Aside0.mk hy329
            clear hy329
            have H' := Aside0.mk H
            clear H
            have p328 : 0 ≤ (x24_2 : Int) := of_decide_eq_true dg_
            have q328 : x24_2 < (x4_1.length : Int) := of_decide_eq_true dg_
            obtain ⟨ad328, e328, hx328_0⟩ := Kd.at_int (Kd.R_reads' HO_22.out).2.2 x24_2 p328 q328
            cases e328
            replace p328 := eq_true p328
            replace q328 := eq_true q328
            have p19 : 0 ≤ (x24_2 : Int) := of_decide_eq_true dg_
            have q19 : (x24_2 : Int) < ((x6_2.length : Int) : Int) := of_decide_eq_true dg_
            obtain ⟨go19, co19, eo19, gb19, gl19, cl19, HG19⟩ := Kd.R_form HO_6.out (by omega)
            (first | cases eo19 | (injection eo19 with ea_ en_ ec_; (first | subst ea_ | (injection ea_ with ea_; subst ea_)); subst ec_; clear en_))
            have GB19 := Aside0.mk gb19
            have GG19 := Aside0.mk HG19
            clear gb19 gl19 HG19
            obtain ⟨hx19_0, hf19_0⟩ := Kd.R_celln 0 HO_6.out (x24_2 : Int) p19 q19
            replace p19 := eq_true p19
            replace q19 := eq_true q19
            have HP20 := Kd.R_putg HO_6.out (x24_2 : Int) (-2)
            go_wp2_with (first | ((with_reducible refine gate_store (t := 3) (p := 33) rfl ?_); refine store_event (t := 3) (p := 33) (v := ?vo_w21) (w1 := (wr.setCell ⟨go19, (x24_2 : Int).toNat, none⟩ (.int .i64 (-2)))) ?hg ?ho ?hn ?hr ?_; (case ho => rfl); (case hg => rfl); (case hn => rfl); (case hr => first | (go_simp; done) | (go_simp; rfl)); intro w21 hw; have hg : wr.grownBy w21 (some go19) := (by rw [hw]; exact HP20.2); have hp_ : Kd.R (Kd.int .i64) 3 w21 w.heap.size (fun k_ => some k_ ≠ (.slice (some ad328) x4_1.length co12 : Value).ownBlock ∧ some k_ ≠ (.slice (some ad328) x4_1.length co12 : Value).ownBlock) (.slice (some ⟨go19, 0, none⟩) x6_2.length co19) y329 := (by rw [hw, Ny329.out]; exact HP20.1); clear HP20; replace HO_4 := Aside0.mk (Kd.R_after (v := (.slice (some ⟨go19, 0, none⟩) x6_2.length co19)) (v1 := (.slice (some ⟨go19, 0, none⟩) x6_2.length co19)) (ok := (fun _ => True)) (by (with_reducible repeat (first | apply Kd.R_alloc | apply Kd.R_drewN | apply Kd.R_drew)); exact Kd.R_mono HO_4.out (fun _ hk => ⟨trivial, hk⟩)) hg (.inl rfl)); replace HO_6 := Aside0.mk (hp_); replace HO_22 := Aside0.mk (Kd.R_after (v := (.slice (some ⟨go19, 0, none⟩) x6_2.length co19)) (v1 := (.slice (some ⟨go19, 0, none⟩) x6_2.length co19)) (ok := (fun _ => True)) (by (with_reducible repeat (first | apply Kd.R_alloc | apply Kd.R_drewN | apply Kd.R_drew)); exact Kd.R_mono HO_22.out (fun _ hk => ⟨trivial, hk⟩)) hg (.inl rfl)); replace HB := Aside0.mk ((by rw [hw]; exact below_set (HB.out) GB19.out : Below w.heap.size w w21)); clear hg hw hp_))
            go_roundg k2
            case measure => have := HK1.out; have := HK2.out; omega
            case rel => exact ⟨(y329), (wrap64 (x24_2 + 1)), ef_, H', ⟨by have := HK1.out; have := HK2.out; omega⟩, ⟨by (with_reducible repeat (first | apply Kd.R_alloc | apply Kd.R_drewN | apply Kd.R_drew)); exact Kd.R_mono HO_4.out (fun _ hk => hk.2)⟩, ⟨by (with_reducible repeat (first | apply Kd.R_alloc | apply Kd.R_drewN | apply Kd.R_drew)); exact HO_6.out⟩, ⟨by (with_reducible repeat (first | apply Kd.R_alloc | apply Kd.R_drewN | apply Kd.R_drew)); exact Kd.R_mono HO_22.out (fun _ hk => hk.2)⟩, ⟨bb_ HB.out⟩⟩
           ·rw [if_neg c18] at H
            exact absurd H (by simp)
          ·rw [if_neg c17] at H
           have c17b0 : decide ((rd x4_1 x24_2) < 0) = false := decide_eq_false c17
           clear c17
           have H' := Aside0.mk H
           clear H
           have p328 : 0 ≤ (x24_2 : Int) := of_decide_eq_true dg_
           have q328 : x24_2 < (x4_1.length : Int) := of_decide_eq_true dg_
           obtain ⟨ad328, e328, hx328_0⟩ := Kd.at_int (Kd.R_reads' HO_22.out).2.2 x24_2 p328 q328
           cases e328
           replace p328 := eq_true p328
           replace q328 := eq_true q328
           go_wp2
           go_roundg k2
           case measure => have := HK1.out; have := HK2.out; omega
           case rel => exact ⟨(x6_2), (wrap64 (x24_2 + 1)), ef_, H', ⟨by have := HK1.out; have := HK2.out; omega⟩, ⟨by (with_reducible repeat (first | apply Kd.R_alloc | apply Kd.R_drewN | apply Kd.R_drew)); exact HO_4.out⟩, ⟨by (with_reducible repeat (first | apply Kd.R_alloc | apply Kd.R_drewN | apply Kd.R_drew)); exact HO_6.out⟩, ⟨by (with_reducible repeat (first | apply Kd.R_alloc | apply Kd.R_drewN | apply Kd.R_drew)); exact HO_22.out⟩, ⟨bb_ HB.out⟩⟩
         ·rw [if_neg c16] at H
          exact absurd H (by simp)
        ·rw [if_neg c15] at H
         exact absurd H (by simp)
       ·rw [if_neg c14] at H
        have c14b0 : decide (x24_2 < (x4_1.length : Int)) = false := decide_eq_false c14
        clear c14
        have H' := Aside0.mk H
        clear H
        go_wp2
        go_loopg [37] k2 (fun kq v37 w' => ∃ (x6_3 : List Int) (x37_3 : Int), v37 = .int .i64 x37_3 ∧ Aside0 (impl_OrderOf.l2 kq l0 x4_1 x17_1 x6_3 x17_1 l0 (l0.length : Int) x37_3 = some (r1, r2)) ∧ Aside0 (kq ≤ k2) ∧ Aside0 (Kd.R (Kd.int .i64) 3 w' w.heap.size (fun k_ => some k_ ≠ (v326 : Value).ownBlock) (.slice Ao12 x4_1.length co12) x4_1) ∧ Aside0 (Kd.R (Kd.int .i64) 3 w' w.heap.size (fun k_ => some k_ ≠ ((.slice Ao12 x4_1.length co12) : Value).ownBlock) v326 x6_3) ∧ Aside0 (Below w.heap.size w w'))
        case atStart => exact ⟨(x6_2), (0), ef_, H', ⟨Nat.le_refl _⟩, ⟨by (with_reducible repeat (first | apply Kd.R_alloc | apply Kd.R_drewN | apply Kd.R_drew)); exact HO_4.out⟩, ⟨by (with_reducible repeat (first | apply Kd.R_alloc | apply Kd.R_drewN | apply Kd.R_drew)); exact Kd.R_mono HO_6.out (fun _ hk => hk.1)⟩, ⟨bb_ HB.out⟩⟩
        case round =>
         clear H'
         try clear c3
         try clear c10
         try clear c10b0
         try clear c14
         try clear c14b0
         obtain ⟨x6_3, x37_3, rfl, HA, HK3, HO_4, HO_6, HB⟩ := hrel
         cases gk with
         | zero => exact absurd HA.out (by simp [impl_OrderOf.l2])
         | succ k3 =>
          have H := HA.out
          clear HA
          simp only [impl_OrderOf.l2] at H
          by_cases c22 : x37_3 < (l0.length : Int)
          ·rw [if_pos c22] at H
           have c22b0 : decide (x37_3 < (l0.length : Int)) = true := decide_eq_true c22
           clear c22
           by_cases c23 : 0 ≤ x37_3
           ·rw [if_pos c23] at H
            have c23b0 : decide (0 ≤ x37_3) = true := decide_eq_true c23
            clear c23
            by_cases c24 : x37_3 < (l0.length : Int)
            ·rw [if_pos c24] at H
             have c24b0 : decide (x37_3 < (l0.length : Int)) = true := decide_eq_true c24
             clear c24
             by_cases c25 : 0 ≤ ((rd_T94 l0 x37_3).f0)
             ·rw [if_pos c25] at H
              have c25b0 : decide (0 ≤ ((rd_T94 l0 x37_3).f0)) = true := decide_eq_true c25
              clear c25
              by_cases c26 : ((rd_T94 l0 x37_3).f0) < (x4_1.length : Int)
              ·rw [if_pos c26] at H
               have c26b0 : decide (((rd_T94 l0 x37_3).f0) < (x4_1.length : Int)) = true := decide_eq_true c26
               clear c26
               by_cases c27 : (rd x4_1 ((rd_T94 l0 x37_3).f0)) < 0
               ·rw [if_pos c27] at H
                have c27b0 : decide ((rd x4_1 ((rd_T94 l0 x37_3).f0)) < 0) = true := decide_eq_true c27
                clear c27
                by_cases c28 : 0 ≤ ((rd_T94 l0 x37_3).f1)
                ·rw [if_pos c28] at H
                 have c28b0 : decide (0 ≤ ((rd_T94 l0 x37_3).f1)) = true := decide_eq_true c28
                 clear c28
                 by_cases c29 : ((rd_T94 l0 x37_3).f1) < (x4_1.length : Int)
                 ·rw [if_pos c29] at H
                  have c29b0 : decide (((rd_T94 l0 x37_3).f1) < (x4_1.length : Int)) = true := decide_eq_true c29
                  clear c29
                  by_cases c30 : (rd x4_1 ((rd_T94 l0 x37_3).f1)) < 0
                  ·rw [if_pos c30] at H
                   have c30b0 : decide ((rd x4_1 ((rd_T94 l0 x37_3).f1)) < 0) = true := decide_eq_true c30
                   clear c30
                   by_cases c31 : ((rd_T94 l0 x37_3).f1) < (x6_3.length : Int)
                   ·rw [if_pos c31] at H
                    have c31b0 : decide (((rd_T94 l0 x37_3).f1) < (x6_3.length : Int)) = true := decide_eq_true c31
                    clear c31
                    obtain ⟨y334, hy334⟩ : ∃ y_ : List Int, y_ = (x6_3.set (((rd_T94 l0 x37_3).f1) : Int).toNat (-1)) := ⟨_, rfl⟩
                    replace H : (impl_OrderOf.l2 k3 l0 x4_1 x17_1 y334 x17_1 l0 (l0.length : Int) (wrap64 (x37_3 + 1))) = some (r1, r2) := by first | (rw [hy334]; with_reducible exact H) | (have H2_ := (Option.bind_some _ _).symm.trans H; rw [hy334]; with_reducible exact H2_) | (have H2_ := (Option.bind_some _ _).symm.trans H; with_reducible exact H2_) | with_reducible exact H | (rw [hy334]; exact H) | exact H
                    have Ny334 := Aside0.mk hy334
                    clear hy334
                    have H' := Aside0.mk H
                    clear H
                    have p330 : 0 ≤ (x37_3 : Int) := of_decide_eq_true dg_
                    have q330 : x37_3 < (l0.length : Int) := of_decide_eq_true dg_
                    obtain ⟨ad330, e330, hx330_0, hx330_1⟩ := at_T94 HR0.out x37_3 p330 q330
                    cases e330
                    replace hx330_0 := (HB.out.cell (World.block_lt_of_cell? w _ hx330_0)).trans hx330_0
                    replace hx330_1 := (HB.out.cell (World.block_lt_of_cell? w _ hx330_1)).trans hx330_1
                    replace p330 := eq_true p330
                    replace q330 := eq_true q330
                    go_wp2_with (first | ((with_reducible refine gate_dst (N := 10) rfl ?_); refine box_event ?hg (N := 10) ?hd (cs := #[.int .i64 0, .int .i64 0]) (t := 94) ?hr ?_; (case hd => rfl); (case hg => rfl); (case hr => first | (go_simp; done) | (go_simp; rfl)); intro gb331 hg w33 hbox hb; replace HO_4 := Aside0.mk (Kd.R_below (ra_ HO_4.out) hb); replace HO_6 := Aside0.mk (Kd.R_below (ra_ HO_6.out) hb); have BK331 := Aside0.mk (hbox); have GW331 := Aside0.mk ((by rw [hg]; exact (bz_ HB.out) : w.heap.size ≤ gb331)); have GE331 := Aside0.mk ((by rw [hg]; exact (bz_ HB.out) : w.heap.size ≤ gb331)); replace HB := Aside0.mk (bs_ HB.out hb); clear hb hbox hg; obtain ⟨hcz34_0, hcz34_1, hfz34_0, hfz34_1⟩ := cz2_ BK331.out) | ((with_reducible refine gate_store (t := 94) (p := 10) rfl ?_); refine store_event (t := 94) (p := 10) (v := ?vo_w35) (w1 := ((w33.setCell ⟨gb331, 0, none⟩ (.int .i64 ((rd_T94 l0 x37_3).f0))).setCell ⟨gb331, 1, none⟩ (.int .i64 ((rd_T94 l0 x37_3).f1)))) ?hg ?ho ?hn ?hr ?_; (case ho => rfl); (case hg => rfl); (case hn => rfl); (case hr => first | (go_simp; done) | (go_simp; rfl)); intro w35 hw; have n0_ : Aside0 (Kd.R (Kd.int .i64) 3 w35 w.heap.size (fun k_ => some k_ ≠ (v326 : Value).ownBlock) (.slice Ao12 x4_1.length co12) x4_1) := ⟨(by rw [hw]; exact (rm_ (Kd.R_types HO_4.out BK331.out (by decide)) (fun _ hk => hk.1)))⟩; have n1_ : Aside0 (Kd.R (Kd.int .i64) 3 w35 w.heap.size (fun k_ => some k_ ≠ (.slice Ao12 x4_1.length co12 : Value).ownBlock) v326 x6_3) := ⟨(by rw [hw]; exact (rm_ (Kd.R_types HO_6.out BK331.out (by decide)) (fun _ hk => hk.1)))⟩; have n2_ : Aside0 (w35.heap[gb331]? = some (.cells #[.int .i64 ((rd_T94 l0 x37_3).f0), .int .i64 ((rd_T94 l0 x37_3).f1)] 94 (0, 0))) := ⟨(by rw [hw]; exact (by (with_reducible repeat (first | refine blk_drewN ?_ _ | refine blk_drew ?_ | refine blk_alloc ?_ _)); refine blk_put (cs := #[.int .i64 ((rd_T94 l0 x37_3).f0), .int .i64 0]) ?_ 1 _ rfl; (with_reducible repeat (first | refine blk_drewN ?_ _ | refine blk_drew ?_ | refine blk_alloc ?_ _)); refine blk_put (cs := #[.int .i64 0, .int .i64 0]) ?_ 0 _ rfl; (with_reducible repeat (first | refine blk_drewN ?_ _ | refine blk_drew ?_ | refine blk_alloc ?_ _)); exact BK331.out))⟩; have n3_ : Aside0 (Below w.heap.size w w35) := ⟨(by rw [hw]; exact (by repeat (first | (with_reducible first | exact HB.out | apply below_alloc | apply pw_below_drewN | apply below_drew1 | refine below_set ?_ GE331.out) | exact HB.out)))⟩; clear hw; clear HO_4; clear HO_6; clear BK331; clear HB; have HO_4 := n0_; have HO_6 := n1_; have BK331 := n2_; have HB := n3_; clear n0_ n1_ n2_ n3_; obtain ⟨hcz36_0, hcz36_1, hfz36_0, hfz36_1⟩ := cz2_ BK331.out; have p332 : 0 ≤ (((rd_T94 l0 x37_3).f0) : Int) := of_decide_eq_true dg_; have q332 : ((rd_T94 l0 x37_3).f0) < (x4_1.length : Int) := of_decide_eq_true dg_; obtain ⟨ad332, e332, hx332_0⟩ := Kd.at_int (Kd.R_reads' HO_4.out).2.2 ((rd_T94 l0 x37_3).f0) p332 q332; cases e332; replace p332 := eq_true p332; replace q332 := eq_true q332; have p333 : 0 ≤ (((rd_T94 l0 x37_3).f1) : Int) := of_decide_eq_true dg_; have q333 : ((rd_T94 l0 x37_3).f1) < (x4_1.length : Int) := of_decide_eq_true dg_; obtain ⟨ad333, e333, hx333_0⟩ := Kd.at_int (Kd.R_reads' HO_4.out).2.2 ((rd_T94 l0 x37_3).f1) p333 q333; obtain rfl : ad332 = ad333 := (by injection e333); replace p333 := eq_true p333; replace q333 := eq_true q333; have p32 : 0 ≤ (((rd_T94 l0 x37_3).f1) : Int) := of_decide_eq_true dg_; have q32 : (((rd_T94 l0 x37_3).f1) : Int) < ((x6_3.length : Int) : Int) := of_decide_eq_true dg_; obtain ⟨go32, co32, eo32, gb32, gl32, cl32, HG32⟩ := Kd.R_form HO_6.out (by omega); (first | cases eo32 | (injection eo32 with ea_ en_ ec_; (first | subst ea_ | (injection ea_ with ea_; subst ea_)); subst ec_; clear en_)); have GB32 := Aside0.mk gb32; have GG32 := Aside0.mk HG32; clear gb32 gl32 HG32; obtain ⟨hx32_0, hf32_0⟩ := Kd.R_celln 0 HO_6.out (((rd_T94 l0 x37_3).f1) : Int) p32 q32; replace p32 := eq_true p32; replace q32 := eq_true q32; obtain ⟨hy37_, hz37_⟩ := Kd.R_celln 0 HO_6.out (((rd_T94 l0 x37_3).f1) : Int) (of_decide_eq_true dg_) (of_decide_eq_true dg_); have HP37 := Kd.R_putg HO_6.out (((rd_T94 l0 x37_3).f1) : Int) (-1)) | ((with_reducible refine gate_store (t := 3) (p := 58) rfl ?_); refine store_event (t := 3) (p := 58) (v := ?vo_w38) (w1 := (w35.setCell ⟨go32, (((rd_T94 l0 x37_3).f1) : Int).toNat, none⟩ (.int .i64 (-1)))) ?hg ?ho ?hn ?hr ?_; (case ho => rfl); (case hg => rfl); (case hn => rfl); (case hr => first | (go_simp; done) | (go_simp; rfl)); intro w38 hw; have hg : w35.grownBy w38 (some go32) := (by rw [hw]; exact HP37.2); have hp_ : Kd.R (Kd.int .i64) 3 w38 w.heap.size (fun k_ => some k_ ≠ (.slice (some ad332) x4_1.length co12 : Value).ownBlock) (.slice (some ⟨go32, 0, none⟩) x6_3.length co32) y334 := (by rw [hw, Ny334.out]; exact HP37.1); clear HP37; replace HO_4 := Aside0.mk (Kd.R_after (v := (.slice (some ⟨go32, 0, none⟩) x6_3.length co32)) (v1 := (.slice (some ⟨go32, 0, none⟩) x6_3.length co32)) (ok := (fun _ => True)) (by (with_reducible repeat (first | apply Kd.R_alloc | apply Kd.R_drewN | apply Kd.R_drew)); exact Kd.R_mono HO_4.out (fun _ hk => ⟨trivial, hk⟩)) hg (.inl rfl)); replace BK331 := Aside0.mk (blk_grown (g := gb331) (o := .cells #[.int .i64 ((rd_T94 l0 x37_3).f0), .int .i64 ((rd_T94 l0 x37_3).f1)] 94 (0, 0)) (by (with_reducible repeat (first | refine blk_drewN ?_ _ | refine blk_drew ?_ | refine blk_alloc ?_ _)); exact BK331.out) hg (Kd.R_ne HO_6.out BK331.out (by decide))); replace HO_6 := Aside0.mk (hp_); replace HB := Aside0.mk ((by rw [hw]; exact below_set (HB.out) GB32.out : Below w.heap.size w w38)); clear hg hw hp_))
                    go_roundg k3
                    case measure => have := HK1.out; have := HK2.out; have := HK3.out; omega
                    case rel => exact ⟨(y334), (wrap64 (x37_3 + 1)), ef_, H', ⟨by have := HK1.out; have := HK2.out; have := HK3.out; omega⟩, ⟨by (with_reducible repeat (first | apply Kd.R_alloc | apply Kd.R_drewN | apply Kd.R_drew)); exact Kd.R_mono HO_4.out (fun _ hk => hk.2)⟩, ⟨by (with_reducible repeat (first | apply Kd.R_alloc | apply Kd.R_drewN | apply Kd.R_drew)); exact HO_6.out⟩, ⟨bb_ HB.out⟩⟩
                   ·rw [if_neg c31] at H
                    exact absurd H (by simp)
                  ·rw [if_neg c30] at H
                   have c30b0 : decide ((rd x4_1 ((rd_T94 l0 x37_3).f1)) < 0) = false := decide_eq_false c30
                   clear c30
                   have H' := Aside0.mk H
                   clear H
                   have p330 : 0 ≤ (x37_3 : Int) := of_decide_eq_true dg_
                   have q330 : x37_3 < (l0.length : Int) := of_decide_eq_true dg_
                   obtain ⟨ad330, e330, hx330_0, hx330_1⟩ := at_T94 HR0.out x37_3 p330 q330
                   cases e330
                   replace hx330_0 := (HB.out.cell (World.block_lt_of_cell? w _ hx330_0)).trans hx330_0
                   replace hx330_1 := (HB.out.cell (World.block_lt_of_cell? w _ hx330_1)).trans hx330_1
                   replace p330 := eq_true p330
                   replace q330 := eq_true q330
                   exact impl_OrderOf.e0
                 ·rw [if_neg c29] at H
                  exact absurd H (by simp)
                ·rw [if_neg c28] at H
                 exact absurd H (by simp)
               ·rw [if_neg c27] at H
                have c27b0 : decide ((rd x4_1 ((rd_T94 l0 x37_3).f0)) < 0) = false := decide_eq_false c27
                clear c27
                have H' := Aside0.mk H
                clear H
                have p330 : 0 ≤ (x37_3 : Int) := of_decide_eq_true dg_
                have q330 : x37_3 < (l0.length : Int) := of_decide_eq_true dg_
                obtain ⟨ad330, e330, hx330_0, hx330_1⟩ := at_T94 HR0.out x37_3 p330 q330
                cases e330
                replace hx330_0 := (HB.out.cell (World.block_lt_of_cell? w _ hx330_0)).trans hx330_0
                replace hx330_1 := (HB.out.cell (World.block_lt_of_cell? w _ hx330_1)).trans hx330_1
                replace p330 := eq_true p330
                replace q330 := eq_true q330
                exact impl_OrderOf.e0
              ·rw [if_neg c26] at H
               exact absurd H (by simp)
             ·rw [if_neg c25] at H
              exact absurd H (by simp)
            ·rw [if_neg c24] at H
             exact absurd H (by simp)
           ·rw [if_neg c23] at H
            exact absurd H (by simp)
          ·rw [if_neg c22] at H
           have c22b0 : decide (x37_3 < (l0.length : Int)) = false := decide_eq_false c22
           clear c22
           replace H := Option.bind_eq_some_iff.mp H
           obtain ⟨t335, A430, H⟩ := H
           try dsimp only at H
           have A43 := Aside0.mk A430
           clear A430
           by_cases c44 : t335 < 0
           ·rw [if_pos c44] at H
            have c44b0 : decide (t335 < 0) = true := decide_eq_true c44
            clear c44
            simp only [Option.some.injEq, Prod.mk.injEq] at H
            obtain ⟨rfl, rfl⟩ := H
            obtain ⟨Ao45, co45, eo45⟩ := Kd.R_slice HO_6.out
            subst eo45
            go_wp2_with (first | ((with_reducible refine gate_callee (f := 147) rfl ?_); refine gm_ (some 62) Try.func147 #[.slice A0 l0.length c0, .slice Ao45 x6_3.length co45] rfl ?_; (with_reducible refine (impl_nextRanked.calls k3 _ _ l0 _ _ x6_3 t335 _ ?side1 HC0.out ?side3 ?side4 A43.out).mono ?_); (case side1 => exact cb_ HR0.out HB.out); (case side3 => repeat (first | exact (Kd.R_reads' HO_6.out).2.2 | (with_reducible refine Kd.C_alloc ?_ _) | (with_reducible refine Kd.C_drewN ?_ _) | (with_reducible refine Kd.C_drew ?_))); (case side4 => exact (Kd.R_reads' HO_6.out).2.1); rintro e w' ⟨rfl, ⟨nd, rfl⟩⟩; refine ⟨_, rfl, ?_⟩))
            go_ret2
            exact ⟨_, fin_, by first | exact Kd.R_nil _ _ _ _ _ | exact Kd.N_nil _ _ _ _ _ | exact Kd.V_nil _ _ _ _ _ | exact Kd.Q_nil _ _ _ _ _ | exact Kd.S_nil _ _ _ _ _, bb_ HB.out⟩
           ·rw [if_neg c44] at H
            have c44b0 : decide (t335 < 0) = false := decide_eq_false c44
            clear c44
            by_cases c46 : 0 ≤ t335
            ·rw [if_pos c46] at H
             have c46b0 : decide (0 ≤ t335) = true := decide_eq_true c46
             clear c46
             by_cases c47 : t335 < (x4_1.length : Int)
             ·rw [if_pos c47] at H
              have c47b0 : decide (t335 < (x4_1.length : Int)) = true := decide_eq_true c47
              clear c47
              obtain ⟨y336, hy336⟩ : ∃ y_ : List Int, y_ = (x4_1.set (t335 : Int).toNat x17_1) := ⟨_, rfl⟩
              replace H : (impl_OrderOf.l0 k3 l0 y336 (wrap64 (x17_1 + 1))) = some (r1, r2) := by first | (rw [hy336]; with_reducible exact H) | (have H2_ := (Option.bind_some _ _).symm.trans H; rw [hy336]; with_reducible exact H2_) | (have H2_ := (Option.bind_some _ _).symm.trans H; with_reducible exact H2_) | with_reducible exact H | (rw [hy336]; exact H) | exact H
              have Ny336 := Aside0.mk hy336
              clear hy336
              have H' := Aside0.mk H
              clear H
              obtain ⟨Ao49, co49, eo49⟩ := Kd.R_slice HO_6.out
              subst eo49
              go_wp2_with (first | ((with_reducible refine gate_callee (f := 147) rfl ?_); refine gm_ (some 62) Try.func147 #[.slice A0 l0.length c0, .slice Ao49 x6_3.length co49] rfl ?_; (with_reducible refine (impl_nextRanked.calls k3 _ _ l0 _ _ x6_3 t335 _ ?side1 HC0.out ?side3 ?side4 A43.out).mono ?_); (case side1 => exact cb_ HR0.out HB.out); (case side3 => repeat (first | exact (Kd.R_reads' HO_6.out).2.2 | (with_reducible refine Kd.C_alloc ?_ _) | (with_reducible refine Kd.C_drewN ?_ _) | (with_reducible refine Kd.C_drew ?_))); (case side4 => exact (Kd.R_reads' HO_6.out).2.1); rintro e w' ⟨rfl, ⟨nd, rfl⟩⟩; refine ⟨_, rfl, ?_⟩; (try (rw [drewN_self wr]; generalize hq_ : World.drewN wr _ = wr; have n0_ : Aside0 (Kd.R (Kd.int .i64) 3 wr w.heap.size (fun k_ => some k_ ≠ (.slice Ao49 x6_3.length co49 : Value).ownBlock) (.slice Ao12 x4_1.length co12) x4_1) := ⟨by rw [← hq_]; exact (ra_ HO_4.out)⟩; have n1_ : Aside0 (Kd.R (Kd.int .i64) 3 wr w.heap.size (fun k_ => some k_ ≠ (.slice Ao12 x4_1.length co12 : Value).ownBlock) (.slice Ao49 x6_3.length co49) x6_3) := ⟨by rw [← hq_]; exact (ra_ HO_6.out)⟩; have n2_ : Aside0 (Below w.heap.size w wr) := ⟨by rw [← hq_]; exact (by repeat (first | (with_reducible first | exact HB.out | apply below_alloc | apply pw_below_drewN | apply below_drew1) | exact HB.out))⟩; clear HO_4 HO_6 HB hq_; have HO_4 := n0_; have HO_6 := n1_; have HB := n2_; clear n0_ n1_ n2_)); have p48 : 0 ≤ (t335 : Int) := of_decide_eq_true dg_; have q48 : (t335 : Int) < ((x4_1.length : Int) : Int) := of_decide_eq_true dg_; obtain ⟨go48, co48, eo48, gb48, gl48, cl48, HG48⟩ := Kd.R_form HO_4.out (by omega); (first | cases eo48 | (injection eo48 with ea_ en_ ec_; (first | subst ea_ | (injection ea_ with ea_; subst ea_)); subst ec_; clear en_)); have GB48 := Aside0.mk gb48; have GG48 := Aside0.mk HG48; clear gb48 gl48 HG48; obtain ⟨hx48_0, hf48_0⟩ := Kd.R_celln 0 HO_4.out (t335 : Int) p48 q48; replace p48 := eq_true p48; replace q48 := eq_true q48; obtain ⟨hy50_, hz50_⟩ := Kd.R_celln 0 HO_4.out (t335 : Int) (of_decide_eq_true dg_) (of_decide_eq_true dg_); have HP50 := Kd.R_putg HO_4.out (t335 : Int) x17_1) | ((with_reducible refine gate_store (t := 3) (p := 68) rfl ?_); refine store_event (t := 3) (p := 68) (v := ?vo_w51) (w1 := (wr.setCell ⟨go48, (t335 : Int).toNat, none⟩ (.int .i64 x17_1))) ?hg ?ho ?hn ?hr ?_; (case ho => rfl); (case hg => rfl); (case hn => rfl); (case hr => first | (go_simp; done) | (go_simp; rfl)); intro w51 hw; have hg : wr.grownBy w51 (some go48) := (by rw [hw]; exact HP50.2); have hp_ : Kd.R (Kd.int .i64) 3 w51 w.heap.size (fun k_ => some k_ ≠ (.slice Ao49 x6_3.length co49 : Value).ownBlock) (.slice (some ⟨go48, 0, none⟩) x4_1.length co12) y336 := (by rw [hw, Ny336.out]; exact HP50.1); clear HP50; replace HO_4 := Aside0.mk (hp_); replace HO_6 := Aside0.mk (Kd.R_after (v := (.slice (some ⟨go48, 0, none⟩) x4_1.length co12)) (v1 := (.slice (some ⟨go48, 0, none⟩) x4_1.length co12)) (ok := (fun _ => True)) (by (with_reducible repeat (first | apply Kd.R_alloc | apply Kd.R_drewN | apply Kd.R_drew)); exact Kd.R_mono HO_6.out (fun _ hk => ⟨trivial, hk⟩)) hg (.inl rfl)); replace HB := Aside0.mk ((by rw [hw]; exact below_set (HB.out) GB48.out : Below w.heap.size w w51)); clear hg hw hp_))
              go_roundg k3
              case measure => have := HK1.out; have := HK2.out; have := HK3.out; omega
              case rel => exact ⟨(y336), (wrap64 (x17_1 + 1)), ef_, H', ⟨by have := HK1.out; have := HK2.out; have := HK3.out; omega⟩, ⟨by (with_reducible repeat (first | apply Kd.R_alloc | apply Kd.R_drewN | apply Kd.R_drew)); exact Kd.R_mono HO_4.out (fun _ hk => trivial)⟩, ⟨bb_ HB.out⟩⟩
             ·rw [if_neg c47] at H
              exact absurd H (by simp)
            ·rw [if_neg c46] at H
             exact absurd H (by simp)
    ·rw [if_neg c10] at H
     have c10b0 : decide (x17_1 < 128) = false := decide_eq_false c10
     clear c10
     simp only [Option.some.injEq, Prod.mk.injEq] at H
     obtain ⟨rfl, rfl⟩ := H
     go_wp2
     go_ret2
     exact ⟨_, fin_, by (with_reducible repeat (first | apply Kd.R_alloc | apply Kd.R_drewN | apply Kd.R_drew)); exact HO_4.out, bb_ HB.out⟩
 ·replace c3 := Bool.eq_false_iff.mpr c3
  subst c3
  rw [if_neg (show ¬ (false = true) by decide)] at H
  simp only [Option.some.injEq, Prod.mk.injEq] at H
  obtain ⟨rfl, rfl⟩ := H
  go_enter Try.func120, Try.ntmps120
  go_wp2_with (first | ((with_reducible refine gate_callee (f := 124) rfl ?_); refine gm_ (some 13) Try.func124 #[.slice A0 l0.length c0] rfl ?_; (with_reducible refine (impl_DependsOk.calls k _ _ l0 false _ ?side1 HC0.out A2.out).mono ?_); (case side1 => repeat (first | exact HR0.out | (with_reducible refine Kd.C_alloc ?_ _) | (with_reducible refine Kd.C_drewN ?_ _) | (with_reducible refine Kd.C_drew ?_))); rintro e w52 ⟨rfl, hb⟩; refine ⟨_, rfl, ?_⟩; replace HB := Aside0.mk (bs_ HB.out hb); (try clear hb)))
  go_ret2
  exact ⟨_, fin_, by first | exact Kd.R_nil _ _ _ _ _ | exact Kd.N_nil _ _ _ _ _ | exact Kd.V_nil _ _ _ _ _ | exact Kd.Q_nil _ _ _ _ _ | exact Kd.S_nil _ _ _ _ _, bb_ HB.out⟩

/-! ### impl_judged: function 79 -/
def impl_judged.f (k : Nat) (l0 : List (S94)) : Option (Int × List Int × List Int) := (impl_OrderOf.f k l0).bind fun bt338 => (if bt338.2 = true then (some (1, bt338.1, ([] : List Int))) else ((impl_ShortestCycle.f k l0).bind fun t342 => (some (2, ([] : List Int), t342))))
theorem impl_judged.mono : ∀ a0 k, LeO (impl_judged.f k a0) (impl_judged.f (k + 1) a0) := by
 intro a0 k
 unfold impl_judged.f
 repeat' first
   | (with_reducible exact impl_OrderOf.mono _ _)
   | (with_reducible exact impl_ShortestCycle.mono _ _)
   | (with_reducible exact LeO.refl _)
   | (with_reducible exact LeO.none _)
   | (with_reducible refine LeO.ite ?_ ?_)
   | (with_reducible refine LeO.bind ?_ (fun _ => ?_))
   | exact impl_OrderOf.mono _ _
   | exact impl_ShortestCycle.mono _ _
   | exact LeO.none _
   | refine LeO.ite ?_ ?_
   | refine LeO.bind ?_ (fun _ => ?_)
set_option maxHeartbeats 8000000 in
set_option maxRecDepth 100000 in
theorem impl_judged.calls (k : Nat) (A0 : Option Addr) (c0 : Nat) (l0 : List (S94)) (r1 : Int) (r2 : List Int) (r3 : List Int) (w : World) (hr0 : Kd.C k94 w A0 l0.length l0) (hc0 : l0.length ≤ c0) (h : impl_judged.f k l0 = some (r1, r2, r3)) :
  Calls Try.prog 79 #[.slice A0 l0.length c0] w fun e w' => ∃ v1_ v2_ : Value, e = .returned (.agg #[.int .i64 r1, v1_, v2_]) ∧ Kd.R (Kd.int .i64) 3 w' w.heap.size (fun k_ => some k_ ≠ (v2_ : Value).ownBlock) v1_ r2 ∧ Kd.R (Kd.int .i64) 3 w' w.heap.size (fun k_ => some k_ ≠ (v1_ : Value).ownBlock) v2_ r3 ∧ Below w.heap.size w w' := by
 have hu40 := Try.underlying40
 have HR0 := Aside0.mk hr0
 have HC0 := Aside0.mk hc0
 clear hr0 hc0
 have HB := Aside0.mk (Below.refl w.heap.size w)
 have H : ((impl_OrderOf.f k l0).bind fun bt338 => (if bt338.2 = true then (some (1, bt338.1, ([] : List Int))) else ((impl_ShortestCycle.f k l0).bind fun t342 => (some (2, ([] : List Int), t342))))) = some (r1, r2, r3) := h
 clear h
 replace H := Option.bind_eq_some_iff.mp H
 obtain ⟨⟨t338, t339⟩, A20, H⟩ := H
 try dsimp only at H
 have A2 := Aside0.mk A20
 clear A20
 by_cases c3 : t339 = true
 ·subst c3
  rw [if_pos rfl] at H
  simp only [Option.some.injEq, Prod.mk.injEq] at H
  obtain ⟨rfl, rfl, rfl⟩ := H
  go_enter Try.func79, Try.ntmps79
  go_wp2_with (first | ((with_reducible refine gate_dst (N := 2) rfl ?_); refine box_event ?hg (N := 2) ?hd (cs := #[.int .i64 0, .slice none 0 0, .slice none 0 0]) (t := 40) ?hr ?_; (case hd => rfl); (case hg => rfl); (case hr => first | (go_simp; done) | (go_simp; rfl)); intro gb337 hg w4 hbox hb; have BK337 := Aside0.mk (hbox); have GW337 := Aside0.mk ((by rw [hg]; exact (bz_ HB.out) : w.heap.size ≤ gb337)); have GE337 := Aside0.mk ((by rw [hg]; exact (bz_ HB.out) : w.heap.size ≤ gb337)); replace HB := Aside0.mk (bs_ HB.out hb); clear hb hbox hg) | ((with_reducible refine gate_callee (f := 120) rfl ?_); refine gm_ (some 7) Try.func120 #[.slice A0 l0.length c0] rfl ?_; (with_reducible refine (impl_OrderOf.calls k _ _ l0 t338 true _ ?side1 HC0.out A2.out).mono ?_); (case side1 => exact cb_ HR0.out HB.out); rintro e w5 ⟨v340, rfl, ho0, hb⟩; refine ⟨_, rfl, ?_⟩; have HO341 := Aside0.mk (Kd.R_lower ho0 (bz_ HB.out)); replace BK337 := Aside0.mk (bk_ BK337.out hb); replace HB := Aside0.mk (bs_ HB.out hb); (try clear hb); (try clear ho0); obtain ⟨Ao6, co6, eo6⟩ := Kd.R_slice HO341.out; subst eo6; obtain ⟨hcz7_0, hcz7_1, hcz7_2, hfz7_0, hfz7_1, hfz7_2⟩ := cz3_ BK337.out))
  refine bodyPost_ret (results_cell_row rfl _ _ gb337 40 #[.int .i64 1, .slice Ao6 t338.length co6, .slice none 0 0] (0, 0) _ rfl (by (with_reducible repeat (first | refine blk_drewN ?_ _ | refine blk_drew ?_ | refine blk_alloc ?_ _)); refine blk_put (cs := #[.int .i64 1, .slice Ao6 t338.length co6, .slice none 0 0]) ?_ 2 _ rfl; (with_reducible repeat (first | refine blk_drewN ?_ _ | refine blk_drew ?_ | refine blk_alloc ?_ _)); refine blk_put (cs := #[.int .i64 1, .slice none 0 0, .slice none 0 0]) ?_ 1 _ rfl; (with_reducible repeat (first | refine blk_drewN ?_ _ | refine blk_drew ?_ | refine blk_alloc ?_ _)); refine blk_put (cs := #[.int .i64 0, .slice none 0 0, .slice none 0 0]) ?_ 0 _ rfl; (with_reducible repeat (first | refine blk_drewN ?_ _ | refine blk_drew ?_ | refine blk_alloc ?_ _)); exact BK337.out) Try.underlying40 rfl (by kernel_rfl)) rfl ?_
  exact ⟨_, _, fin_, rm_ (Kd.R_types HO341.out BK337.out (by decide)) (fun _ hk => (by simp [Value.ownBlock])), by first | exact Kd.R_nil _ _ _ _ _ | exact Kd.N_nil _ _ _ _ _ | exact Kd.V_nil _ _ _ _ _ | exact Kd.Q_nil _ _ _ _ _ | exact Kd.S_nil _ _ _ _ _, bb_ HB.out⟩
 ·replace c3 := Bool.eq_false_iff.mpr c3
  subst c3
  rw [if_neg (show ¬ (false = true) by decide)] at H
  replace H := Option.bind_eq_some_iff.mp H
  obtain ⟨t342, A80, H⟩ := H
  try dsimp only at H
  have A8 := Aside0.mk A80
  clear A80
  simp only [Option.some.injEq, Prod.mk.injEq] at H
  obtain ⟨rfl, rfl, rfl⟩ := H
  go_enter Try.func79, Try.ntmps79
  go_wp2_with (first | ((with_reducible refine gate_dst (N := 2) rfl ?_); refine box_event ?hg (N := 2) ?hd (cs := #[.int .i64 0, .slice none 0 0, .slice none 0 0]) (t := 40) ?hr ?_; (case hd => rfl); (case hg => rfl); (case hr => first | (go_simp; done) | (go_simp; rfl)); intro gb337 hg w9 hbox hb; have BK337 := Aside0.mk (hbox); have GW337 := Aside0.mk ((by rw [hg]; exact (bz_ HB.out) : w.heap.size ≤ gb337)); have GE337 := Aside0.mk ((by rw [hg]; exact (bz_ HB.out) : w.heap.size ≤ gb337)); replace HB := Aside0.mk (bs_ HB.out hb); clear hb hbox hg) | ((with_reducible refine gate_callee (f := 120) rfl ?_); refine gm_ (some 7) Try.func120 #[.slice A0 l0.length c0] rfl ?_; (with_reducible refine (impl_OrderOf.calls k _ _ l0 t338 false _ ?side1 HC0.out A2.out).mono ?_); (case side1 => exact cb_ HR0.out HB.out); rintro e w10 ⟨v340, rfl, ho0, hb⟩; refine ⟨_, rfl, ?_⟩; have HO341 := Aside0.mk (Kd.R_lower ho0 (bz_ HB.out)); replace BK337 := Aside0.mk (bk_ BK337.out hb); replace HB := Aside0.mk (bs_ HB.out hb); (try clear hb); (try clear ho0)) | ((with_reducible refine gate_callee (f := 107) rfl ?_); refine gm_ (some 14) Try.func107 #[.slice A0 l0.length c0] rfl ?_; (with_reducible refine (impl_ShortestCycle.calls k _ _ l0 t342 _ ?side1 HC0.out A8.out).mono ?_); (case side1 => exact cb_ HR0.out HB.out); rintro e w11 ⟨v343, rfl, ho0, hb⟩; refine ⟨_, rfl, ?_⟩; have HO344 := Aside0.mk (Kd.R_lower (Kd.R_new' ho0 (rl_ HO341.out)) (bz_ HB.out)); replace HO341 := Aside0.mk (Kd.R_elder' (ra_ HO341.out) (Kd.R_base ho0) hb); replace BK337 := Aside0.mk (bk_ BK337.out hb); replace HB := Aside0.mk (bs_ HB.out hb); (try clear hb); (try clear ho0); obtain ⟨Ao12, co12, eo12⟩ := Kd.R_slice HO344.out; subst eo12; obtain ⟨hcz13_0, hcz13_1, hcz13_2, hfz13_0, hfz13_1, hfz13_2⟩ := cz3_ BK337.out))
  refine bodyPost_ret (results_cell_row rfl _ _ gb337 40 #[.int .i64 2, .slice none 0 0, .slice Ao12 t342.length co12] (0, 0) _ rfl (by (with_reducible repeat (first | refine blk_drewN ?_ _ | refine blk_drew ?_ | refine blk_alloc ?_ _)); refine blk_put (cs := #[.int .i64 2, .slice none 0 0, .slice none 0 0]) ?_ 2 _ rfl; (with_reducible repeat (first | refine blk_drewN ?_ _ | refine blk_drew ?_ | refine blk_alloc ?_ _)); refine blk_put (cs := #[.int .i64 2, .slice none 0 0, .slice none 0 0]) ?_ 1 _ rfl; (with_reducible repeat (first | refine blk_drewN ?_ _ | refine blk_drew ?_ | refine blk_alloc ?_ _)); refine blk_put (cs := #[.int .i64 0, .slice none 0 0, .slice none 0 0]) ?_ 0 _ rfl; (with_reducible repeat (first | refine blk_drewN ?_ _ | refine blk_drew ?_ | refine blk_alloc ?_ _)); exact BK337.out) Try.underlying40 rfl (by kernel_rfl)) rfl ?_
  exact ⟨_, _, fin_, by first | exact Kd.R_nil _ _ _ _ _ | exact Kd.N_nil _ _ _ _ _ | exact Kd.V_nil _ _ _ _ _ | exact Kd.Q_nil _ _ _ _ _ | exact Kd.S_nil _ _ _ _ _, rm_ (Kd.R_types HO344.out BK337.out (by decide)) (fun _ hk => (by simp [Value.ownBlock])), bb_ HB.out⟩

/-! ### impl_CheckClasses: function 56 -/
def impl_CheckClasses.f (k : Nat) (a0_0 : Int) (a0_1 : Int) (l0_2 : List Int) (l1_0 : List Int) (l1_1 : List Int) : Option (Int × List Int × List Int) := (impl_ClassesOk.f k a0_0 a0_1 l0_2 l1_0 l1_1).bind fun t348 => (if t348 = true then ((impl_ClassDepends.f k a0_0 a0_1 l0_2 l1_0 l1_1).bind fun t349 => ((impl_judged.f k t349).bind fun bt352 => (some (bt352.1, bt352.2.1, bt352.2.2)))) else (some (0, ([] : List Int), ([] : List Int))))
theorem impl_CheckClasses.mono : ∀ a0 a1 a2 a3 a4 k, LeO (impl_CheckClasses.f k a0 a1 a2 a3 a4) (impl_CheckClasses.f (k + 1) a0 a1 a2 a3 a4) := by
 intro a0 a1 a2 a3 a4 k
 unfold impl_CheckClasses.f
 repeat' first
   | (with_reducible exact impl_ClassDepends.mono _ _ _ _ _ _)
   | (with_reducible exact impl_ClassesOk.mono _ _ _ _ _ _)
   | (with_reducible exact impl_judged.mono _ _)
   | (with_reducible exact LeO.refl _)
   | (with_reducible exact LeO.none _)
   | (with_reducible refine LeO.ite ?_ ?_)
   | (with_reducible refine LeO.bind ?_ (fun _ => ?_))
   | exact impl_ClassDepends.mono _ _ _ _ _ _
   | exact impl_ClassesOk.mono _ _ _ _ _ _
   | exact impl_judged.mono _ _
   | exact LeO.none _
   | refine LeO.ite ?_ ?_
   | refine LeO.bind ?_ (fun _ => ?_)
set_option maxHeartbeats 8000000 in
set_option maxRecDepth 100000 in
theorem impl_CheckClasses.calls (k : Nat) (a0_0 : Int) (a0_1 : Int) (A0_2 : Option Addr) (c0_2 : Nat) (l0_2 : List Int) (A1_0 : Option Addr) (c1_0 : Nat) (l1_0 : List Int) (A1_1 : Option Addr) (c1_1 : Nat) (l1_1 : List Int) (r1 : Int) (r2 : List Int) (r3 : List Int) (w : World) (hr0_2 : Kd.C (Kd.int .i64) w A0_2 l0_2.length l0_2) (hc0_2 : l0_2.length ≤ c0_2) (hr1_0 : Kd.C (Kd.int .i64) w A1_0 l1_0.length l1_0) (hc1_0 : l1_0.length ≤ c1_0) (hr1_1 : Kd.C (Kd.int .i64) w A1_1 l1_1.length l1_1) (hc1_1 : l1_1.length ≤ c1_1) (h : impl_CheckClasses.f k a0_0 a0_1 l0_2 l1_0 l1_1 = some (r1, r2, r3)) :
  Calls Try.prog 56 #[.agg #[.int .i64 a0_0, .int .i64 a0_1, .slice A0_2 l0_2.length c0_2], .agg #[.slice A1_0 l1_0.length c1_0, .slice A1_1 l1_1.length c1_1]] w fun e w' => ∃ v1_ v2_ : Value, e = .returned (.agg #[.int .i64 r1, v1_, v2_]) ∧ Kd.R (Kd.int .i64) 3 w' w.heap.size (fun k_ => some k_ ≠ (v2_ : Value).ownBlock) v1_ r2 ∧ Kd.R (Kd.int .i64) 3 w' w.heap.size (fun k_ => some k_ ≠ (v1_ : Value).ownBlock) v2_ r3 ∧ Below w.heap.size w w' := by
 have hu44 := Try.underlying44
 have hu70 := Try.underlying70
 have hu40 := Try.underlying40
 have HR0_2 := Aside0.mk hr0_2
 have HC0_2 := Aside0.mk hc0_2
 clear hr0_2 hc0_2
 have HR1_0 := Aside0.mk hr1_0
 have HC1_0 := Aside0.mk hc1_0
 clear hr1_0 hc1_0
 have HR1_1 := Aside0.mk hr1_1
 have HC1_1 := Aside0.mk hc1_1
 clear hr1_1 hc1_1
 have HB := Aside0.mk (Below.refl w.heap.size w)
 have H : ((impl_ClassesOk.f k a0_0 a0_1 l0_2 l1_0 l1_1).bind fun t348 => (if t348 = true then ((impl_ClassDepends.f k a0_0 a0_1 l0_2 l1_0 l1_1).bind fun t349 => ((impl_judged.f k t349).bind fun bt352 => (some (bt352.1, bt352.2.1, bt352.2.2)))) else (some (0, ([] : List Int), ([] : List Int))))) = some (r1, r2, r3) := h
 clear h
 replace H := Option.bind_eq_some_iff.mp H
 obtain ⟨t348, A30, H⟩ := H
 try dsimp only at H
 have A3 := Aside0.mk A30
 clear A30
 by_cases c4 : t348 = true
 ·subst c4
  rw [if_pos rfl] at H
  replace H := Option.bind_eq_some_iff.mp H
  obtain ⟨t349, A50, H⟩ := H
  try dsimp only at H
  have A5 := Aside0.mk A50
  clear A50
  replace H := Option.bind_eq_some_iff.mp H
  obtain ⟨⟨t352, t353, t356⟩, A60, H⟩ := H
  try dsimp only at H
  have A6 := Aside0.mk A60
  clear A60
  simp only [Option.some.injEq, Prod.mk.injEq] at H
  obtain ⟨rfl, rfl, rfl⟩ := H
  go_enter Try.func56, Try.ntmps56
  go_wp2_with (first | ((with_reducible refine gate_dst (N := 2) rfl ?_); refine box_event ?hg (N := 2) ?hd (cs := #[.int .i64 a0_0, .int .i64 a0_1, .slice A0_2 l0_2.length c0_2]) (t := 44) ?hr ?_; (case hd => rfl); (case hg => rfl); (case hr => first | (go_simp; done) | (go_simp; rfl)); intro gb345 hg w7 hbox hb; have BK345 := Aside0.mk (hbox); have GW345 := Aside0.mk ((by rw [hg]; exact (bz_ HB.out) : w.heap.size ≤ gb345)); have GE345 := Aside0.mk ((by rw [hg]; exact (bz_ HB.out) : w.heap.size ≤ gb345)); replace HB := Aside0.mk (bs_ HB.out hb); clear hb hbox hg) | ((with_reducible refine gate_dst (N := 3) rfl ?_); refine box_event ?hg (N := 3) ?hd (cs := #[.slice A1_0 l1_0.length c1_0, .slice A1_1 l1_1.length c1_1]) (t := 70) ?hr ?_; (case hd => rfl); (case hg => rfl); (case hr => first | (go_simp; done) | (go_simp; rfl)); intro gb346 hg w8 hbox hb; have BK346 := Aside0.mk (hbox); have GW346 := Aside0.mk ((by rw [hg]; exact (bz_ HB.out) : w.heap.size ≤ gb346)); have GE346 := Aside0.mk ((by rw [hg]; exact (bz_ HB.out) : w.heap.size ≤ gb346)); replace HB := Aside0.mk (bs_ HB.out hb); have NB345_346 := Aside0.mk ((by rw [hg]; exact Nat.ne_of_lt (bl_ BK345.out) : gb345 ≠ gb346)); have NB346_345 := Aside0.mk ((by rw [hg]; exact Nat.ne_of_gt (bl_ BK345.out) : gb346 ≠ gb345)); replace BK345 := Aside0.mk (bk_ BK345.out hb); clear hb hbox hg) | ((with_reducible refine gate_dst (N := 4) rfl ?_); refine box_event ?hg (N := 4) ?hd (cs := #[.int .i64 0, .slice none 0 0, .slice none 0 0]) (t := 40) ?hr ?_; (case hd => rfl); (case hg => rfl); (case hr => first | (go_simp; done) | (go_simp; rfl)); intro gb347 hg w9 hbox hb; have BK347 := Aside0.mk (hbox); have GW347 := Aside0.mk ((by rw [hg]; exact (bz_ HB.out) : w.heap.size ≤ gb347)); have GE347 := Aside0.mk ((by rw [hg]; exact (bz_ HB.out) : w.heap.size ≤ gb347)); replace HB := Aside0.mk (bs_ HB.out hb); have NB345_347 := Aside0.mk ((by rw [hg]; exact Nat.ne_of_lt (bl_ BK345.out) : gb345 ≠ gb347)); have NB347_345 := Aside0.mk ((by rw [hg]; exact Nat.ne_of_gt (bl_ BK345.out) : gb347 ≠ gb345)); replace BK345 := Aside0.mk (bk_ BK345.out hb); have NB346_347 := Aside0.mk ((by rw [hg]; exact Nat.ne_of_lt (bl_ BK346.out) : gb346 ≠ gb347)); have NB347_346 := Aside0.mk ((by rw [hg]; exact Nat.ne_of_gt (bl_ BK346.out) : gb347 ≠ gb346)); replace BK346 := Aside0.mk (bk_ BK346.out hb); clear hb hbox hg; have hnb10 := NB345_346.out; have hnc10 := NB346_345.out; have hnb11 := NB345_347.out; have hnc11 := NB347_345.out; obtain ⟨hcz12_0, hcz12_1, hcz12_2, hfz12_0, hfz12_1, hfz12_2⟩ := cz3_ BK345.out; have hnb13 := NB346_347.out; have hnc13 := NB347_346.out; obtain ⟨hcz14_0, hcz14_1, hfz14_0, hfz14_1⟩ := cz2_ BK346.out) | ((with_reducible refine gate_callee (f := 55) rfl ?_); refine gm_ (some 7) Try.func55 #[.agg #[.int .i64 a0_0, .int .i64 a0_1, .slice A0_2 l0_2.length c0_2], .agg #[.slice A1_0 l1_0.length c1_0, .slice A1_1 l1_1.length c1_1]] rfl ?_; (with_reducible refine (impl_ClassesOk.calls k a0_0 a0_1 _ _ l0_2 _ _ l1_0 _ _ l1_1 true _ ?side1 HC0_2.out ?side3 HC1_0.out ?side5 HC1_1.out A3.out).mono ?_); (case side1 => exact cb_ HR0_2.out HB.out); (case side3 => exact cb_ HR1_0.out HB.out); (case side5 => exact cb_ HR1_1.out HB.out); rintro e w15 ⟨rfl, hb⟩; refine ⟨_, rfl, ?_⟩; replace BK345 := Aside0.mk (bk_ BK345.out hb); replace BK346 := Aside0.mk (bk_ BK346.out hb); replace BK347 := Aside0.mk (bk_ BK347.out hb); replace HB := Aside0.mk (bs_ HB.out hb); (try clear hb); obtain ⟨hcz16_0, hcz16_1, hcz16_2, hfz16_0, hfz16_1, hfz16_2⟩ := cz3_ BK345.out; obtain ⟨hcz17_0, hcz17_1, hfz17_0, hfz17_1⟩ := cz2_ BK346.out) | ((with_reducible refine gate_callee (f := 48) rfl ?_); refine gm_ (some 12) Try.func48 #[.agg #[.int .i64 a0_0, .int .i64 a0_1, .slice A0_2 l0_2.length c0_2], .agg #[.slice A1_0 l1_0.length c1_0, .slice A1_1 l1_1.length c1_1]] rfl ?_; (with_reducible refine (impl_ClassDepends.calls k a0_0 a0_1 _ _ l0_2 _ _ l1_0 _ _ l1_1 t349 _ ?side1 HC0_2.out ?side3 HC1_0.out ?side5 HC1_1.out A5.out).mono ?_); (case side1 => exact cb_ HR0_2.out HB.out); (case side3 => exact cb_ HR1_0.out HB.out); (case side5 => exact cb_ HR1_1.out HB.out); rintro e w18 ⟨v350, rfl, ho0, hb⟩; refine ⟨_, rfl, ?_⟩; have HO351 := Aside0.mk (Kd.R_lower ho0 (bz_ HB.out)); replace BK345 := Aside0.mk (bk_ BK345.out hb); replace BK346 := Aside0.mk (bk_ BK346.out hb); replace BK347 := Aside0.mk (bk_ BK347.out hb); replace HB := Aside0.mk (bs_ HB.out hb); (try clear hb); (try clear ho0); obtain ⟨Ao19, co19, eo19⟩ := Kd.R_slice HO351.out; subst eo19) | ((with_reducible refine gate_callee (f := 79) rfl ?_); refine gm_ (some 13) Try.func79 #[.slice Ao19 t349.length co19] rfl ?_; (with_reducible refine (impl_judged.calls k _ _ t349 t352 t353 t356 _ ?side1 ?side2 A6.out).mono ?_); (case side1 => repeat (first | exact (Kd.R_reads' HO351.out).2.2 | (with_reducible refine Kd.C_alloc ?_ _) | (with_reducible refine Kd.C_drewN ?_ _) | (with_reducible refine Kd.C_drew ?_))); (case side2 => exact (Kd.R_reads' HO351.out).2.1); rintro e w20 ⟨v354, v357, rfl, ho0, ho1, hb⟩; refine ⟨_, rfl, ?_⟩; replace HO351 := Aside0.mk (Kd.R_below (ra_ HO351.out) hb); have HO355 := Aside0.mk (Kd.R_lower ho0 (bz_ HB.out)); have HO358 := Aside0.mk (Kd.R_lower ho1 (bz_ HB.out)); replace BK345 := Aside0.mk (bk_ BK345.out hb); replace BK346 := Aside0.mk (bk_ BK346.out hb); replace BK347 := Aside0.mk (bk_ BK347.out hb); replace HB := Aside0.mk (bs_ HB.out hb); (try clear hb); (try clear ho0); (try clear ho1); obtain ⟨hcz21_0, hcz21_1, hcz21_2, hfz21_0, hfz21_1, hfz21_2⟩ := cz3_ BK347.out; obtain ⟨Ao22, co22, eo22⟩ := Kd.R_slice HO355.out; subst eo22; obtain ⟨Ao23, co23, eo23⟩ := Kd.R_slice HO358.out; subst eo23))
  refine bodyPost_ret (results_cell_row rfl _ _ gb347 40 #[.int .i64 t352, .slice Ao22 t353.length co22, .slice Ao23 t356.length co23] (0, 0) _ rfl (by (with_reducible repeat (first | refine blk_drewN ?_ _ | refine blk_drew ?_ | refine blk_alloc ?_ _)); refine blk_put (cs := #[.int .i64 t352, .slice Ao22 t353.length co22, .slice none 0 0]) ?_ 2 _ rfl; (with_reducible repeat (first | refine blk_drewN ?_ _ | refine blk_drew ?_ | refine blk_alloc ?_ _)); refine blk_put (cs := #[.int .i64 t352, .slice none 0 0, .slice none 0 0]) ?_ 1 _ rfl; (with_reducible repeat (first | refine blk_drewN ?_ _ | refine blk_drew ?_ | refine blk_alloc ?_ _)); refine blk_put (cs := #[.int .i64 0, .slice none 0 0, .slice none 0 0]) ?_ 0 _ rfl; (with_reducible repeat (first | refine blk_drewN ?_ _ | refine blk_drew ?_ | refine blk_alloc ?_ _)); exact BK347.out) Try.underlying40 rfl (by kernel_rfl)) rfl ?_
  exact ⟨_, _, fin_, rm_ (Kd.R_types HO355.out BK347.out (by decide)) (fun _ hk => hk.1), rm_ (Kd.R_types HO358.out BK347.out (by decide)) (fun _ hk => hk.1), bb_ HB.out⟩
 ·replace c4 := Bool.eq_false_iff.mpr c4
  subst c4
  rw [if_neg (show ¬ (false = true) by decide)] at H
  simp only [Option.some.injEq, Prod.mk.injEq] at H
  obtain ⟨rfl, rfl, rfl⟩ := H
  go_enter Try.func56, Try.ntmps56
  go_wp2_with (first | ((with_reducible refine gate_dst (N := 2) rfl ?_); refine box_event ?hg (N := 2) ?hd (cs := #[.int .i64 a0_0, .int .i64 a0_1, .slice A0_2 l0_2.length c0_2]) (t := 44) ?hr ?_; (case hd => rfl); (case hg => rfl); (case hr => first | (go_simp; done) | (go_simp; rfl)); intro gb345 hg w24 hbox hb; have BK345 := Aside0.mk (hbox); have GW345 := Aside0.mk ((by rw [hg]; exact (bz_ HB.out) : w.heap.size ≤ gb345)); have GE345 := Aside0.mk ((by rw [hg]; exact (bz_ HB.out) : w.heap.size ≤ gb345)); replace HB := Aside0.mk (bs_ HB.out hb); clear hb hbox hg) | ((with_reducible refine gate_dst (N := 3) rfl ?_); refine box_event ?hg (N := 3) ?hd (cs := #[.slice A1_0 l1_0.length c1_0, .slice A1_1 l1_1.length c1_1]) (t := 70) ?hr ?_; (case hd => rfl); (case hg => rfl); (case hr => first | (go_simp; done) | (go_simp; rfl)); intro gb346 hg w25 hbox hb; have BK346 := Aside0.mk (hbox); have GW346 := Aside0.mk ((by rw [hg]; exact (bz_ HB.out) : w.heap.size ≤ gb346)); have GE346 := Aside0.mk ((by rw [hg]; exact (bz_ HB.out) : w.heap.size ≤ gb346)); replace HB := Aside0.mk (bs_ HB.out hb); have NB345_346 := Aside0.mk ((by rw [hg]; exact Nat.ne_of_lt (bl_ BK345.out) : gb345 ≠ gb346)); have NB346_345 := Aside0.mk ((by rw [hg]; exact Nat.ne_of_gt (bl_ BK345.out) : gb346 ≠ gb345)); replace BK345 := Aside0.mk (bk_ BK345.out hb); clear hb hbox hg) | ((with_reducible refine gate_dst (N := 4) rfl ?_); refine box_event ?hg (N := 4) ?hd (cs := #[.int .i64 0, .slice none 0 0, .slice none 0 0]) (t := 40) ?hr ?_; (case hd => rfl); (case hg => rfl); (case hr => first | (go_simp; done) | (go_simp; rfl)); intro gb347 hg w26 hbox hb; have BK347 := Aside0.mk (hbox); have GW347 := Aside0.mk ((by rw [hg]; exact (bz_ HB.out) : w.heap.size ≤ gb347)); have GE347 := Aside0.mk ((by rw [hg]; exact (bz_ HB.out) : w.heap.size ≤ gb347)); replace HB := Aside0.mk (bs_ HB.out hb); have NB345_347 := Aside0.mk ((by rw [hg]; exact Nat.ne_of_lt (bl_ BK345.out) : gb345 ≠ gb347)); have NB347_345 := Aside0.mk ((by rw [hg]; exact Nat.ne_of_gt (bl_ BK345.out) : gb347 ≠ gb345)); replace BK345 := Aside0.mk (bk_ BK345.out hb); have NB346_347 := Aside0.mk ((by rw [hg]; exact Nat.ne_of_lt (bl_ BK346.out) : gb346 ≠ gb347)); have NB347_346 := Aside0.mk ((by rw [hg]; exact Nat.ne_of_gt (bl_ BK346.out) : gb347 ≠ gb346)); replace BK346 := Aside0.mk (bk_ BK346.out hb); clear hb hbox hg; have hnb27 := NB345_346.out; have hnc27 := NB346_345.out; have hnb28 := NB345_347.out; have hnc28 := NB347_345.out; obtain ⟨hcz29_0, hcz29_1, hcz29_2, hfz29_0, hfz29_1, hfz29_2⟩ := cz3_ BK345.out; have hnb30 := NB346_347.out; have hnc30 := NB347_346.out; obtain ⟨hcz31_0, hcz31_1, hfz31_0, hfz31_1⟩ := cz2_ BK346.out) | ((with_reducible refine gate_callee (f := 55) rfl ?_); refine gm_ (some 7) Try.func55 #[.agg #[.int .i64 a0_0, .int .i64 a0_1, .slice A0_2 l0_2.length c0_2], .agg #[.slice A1_0 l1_0.length c1_0, .slice A1_1 l1_1.length c1_1]] rfl ?_; (with_reducible refine (impl_ClassesOk.calls k a0_0 a0_1 _ _ l0_2 _ _ l1_0 _ _ l1_1 false _ ?side1 HC0_2.out ?side3 HC1_0.out ?side5 HC1_1.out A3.out).mono ?_); (case side1 => exact cb_ HR0_2.out HB.out); (case side3 => exact cb_ HR1_0.out HB.out); (case side5 => exact cb_ HR1_1.out HB.out); rintro e w32 ⟨rfl, hb⟩; refine ⟨_, rfl, ?_⟩; replace BK345 := Aside0.mk (bk_ BK345.out hb); replace BK346 := Aside0.mk (bk_ BK346.out hb); replace BK347 := Aside0.mk (bk_ BK347.out hb); replace HB := Aside0.mk (bs_ HB.out hb); (try clear hb); obtain ⟨hcz33_0, hcz33_1, hcz33_2, hfz33_0, hfz33_1, hfz33_2⟩ := cz3_ BK347.out))
  refine bodyPost_ret (results_cell_row rfl _ _ gb347 40 #[.int .i64 0, .slice none 0 0, .slice none 0 0] (0, 0) _ rfl (by (with_reducible repeat (first | refine blk_drewN ?_ _ | refine blk_drew ?_ | refine blk_alloc ?_ _)); refine blk_put (cs := #[.int .i64 0, .slice none 0 0, .slice none 0 0]) ?_ 2 _ rfl; (with_reducible repeat (first | refine blk_drewN ?_ _ | refine blk_drew ?_ | refine blk_alloc ?_ _)); refine blk_put (cs := #[.int .i64 0, .slice none 0 0, .slice none 0 0]) ?_ 1 _ rfl; (with_reducible repeat (first | refine blk_drewN ?_ _ | refine blk_drew ?_ | refine blk_alloc ?_ _)); refine blk_put (cs := #[.int .i64 0, .slice none 0 0, .slice none 0 0]) ?_ 0 _ rfl; (with_reducible repeat (first | refine blk_drewN ?_ _ | refine blk_drew ?_ | refine blk_alloc ?_ _)); exact BK347.out) Try.underlying40 rfl (by kernel_rfl)) rfl ?_
  exact ⟨_, _, fin_, by first | exact Kd.R_nil _ _ _ _ _ | exact Kd.N_nil _ _ _ _ _ | exact Kd.V_nil _ _ _ _ _ | exact Kd.Q_nil _ _ _ _ _ | exact Kd.S_nil _ _ _ _ _, by first | exact Kd.R_nil _ _ _ _ _ | exact Kd.N_nil _ _ _ _ _ | exact Kd.V_nil _ _ _ _ _ | exact Kd.Q_nil _ _ _ _ _ | exact Kd.S_nil _ _ _ _ _, bb_ HB.out⟩

/-! ### laws_FnSplitSafe: function 11 -/
attribute [local go_sem] Instr.field asAgg
def laws_FnSplitSafe.f (k : Nat) (l0 : List Int) : Option (Bool) := (laws_big.f l0).bind fun t359 => (if t359 = true then (some true) else ((spec_DrawGrid.f k l0).bind fun bt360 => ((impl_SplitClasses.f k bt360.1 bt360.2).bind fun bt363 => (if bt363.2.2 = true then ((impl_ClassesOk.f k bt360.1 bt360.2 ([] : List Int) bt363.1 bt363.2.1).bind fun t372 => (if t372 = true then ((impl_CheckClasses.f k bt360.1 bt360.2 ([] : List Int) bt363.1 bt363.2.1).bind fun bt373 => (some (bt373.1 == 1))) else (none))) else (none)))))
theorem laws_FnSplitSafe.mono : ∀ a0 k, LeO (laws_FnSplitSafe.f k a0) (laws_FnSplitSafe.f (k + 1) a0) := by
 intro a0 k
 unfold laws_FnSplitSafe.f
 repeat' first
   | (with_reducible exact impl_CheckClasses.mono _ _ _ _ _ _)
   | (with_reducible exact impl_ClassesOk.mono _ _ _ _ _ _)
   | (with_reducible exact impl_SplitClasses.mono _ _ _)
   | (with_reducible exact spec_DrawGrid.mono _ _)
   | (with_reducible exact LeO.refl _)
   | (with_reducible exact LeO.none _)
   | (with_reducible refine LeO.ite ?_ ?_)
   | (with_reducible refine LeO.bind ?_ (fun _ => ?_))
   | exact impl_CheckClasses.mono _ _ _ _ _ _
   | exact impl_ClassesOk.mono _ _ _ _ _ _
   | exact impl_SplitClasses.mono _ _ _
   | exact spec_DrawGrid.mono _ _
   | exact LeO.none _
   | refine LeO.ite ?_ ?_
   | refine LeO.bind ?_ (fun _ => ?_)
theorem laws_FnSplitSafe.e0 {P : Prop} (h : P := by
 go_enter Try.func11, Try.ntmps11
 go_wp2_with (first | ((with_reducible refine gate_callee (f := 20) rfl ?_); refine gm_ (some 8) Try.func20 #[.slice A0 l0.length c0] rfl ?_; (with_reducible refine (laws_big.calls _ _ l0 _ _ ?side1 HC0.out A2.out).mono ?_); (case side1 => repeat (first | exact HR0.out | (with_reducible refine Kd.C_alloc ?_ _) | (with_reducible refine Kd.C_drewN ?_ _) | (with_reducible refine Kd.C_drew ?_))); rintro e w' ⟨rfl, ⟨nd, rfl⟩⟩; refine ⟨_, rfl, ?_⟩) | ((with_reducible refine gate_callee (f := 51) rfl ?_); refine gm_ (some 10) Try.func51 #[.slice A0 l0.length c0] rfl ?_; (with_reducible refine (spec_DrawGrid.calls k _ _ l0 t360 t361 _ ?side1 HC0.out A4.out).mono ?_); (case side1 => repeat (first | exact HR0.out | (with_reducible refine Kd.C_alloc ?_ _) | (with_reducible refine Kd.C_drewN ?_ _) | (with_reducible refine Kd.C_drew ?_))); rintro e w_0 ⟨rfl, hb⟩; refine ⟨_, rfl, ?_⟩; replace HB := Aside0.mk (bs_ HB.out hb); (try clear hb)) | ((with_reducible refine gate_dst (N := 3) rfl ?_); refine box_event ?hg (N := 3) ?hd (cs := #[.int .i64 0, .int .i64 0]) (t := 42) ?hr ?_; (case hd => rfl); (case hg => rfl); (case hr => first | (go_simp; done) | (go_simp; rfl)); intro gb362 hg w_0 hbox hb; have BK362 := Aside0.mk (hbox); have GW362 := Aside0.mk ((by rw [hg]; exact (bz_ HB.out) : w.heap.size ≤ gb362)); have GE362 := Aside0.mk ((by rw [hg]; exact (bz_ HB.out) : w.heap.size ≤ gb362)); replace HB := Aside0.mk (bs_ HB.out hb); clear hb hbox hg; obtain ⟨hcz_0, hcz_1, hfz_0, hfz_1⟩ := cz2_ BK362.out) | ((with_reducible refine gate_callee (f := 54) rfl ?_); refine gm_ (some 13) Try.func54 #[.agg #[.int .i64 t360, .int .i64 t361]] rfl ?_; (with_reducible refine (impl_SplitClasses.calls k t360 t361 t363 t366 _ _ A5.out).mono ?_); rintro e w_0 ⟨v364, v367, rfl, ho0, ho1, hb⟩; refine ⟨_, rfl, ?_⟩; have HO365 := Aside0.mk (Kd.R_lower ho0 (bz_ HB.out)); have HO368 := Aside0.mk (Kd.R_lower ho1 (bz_ HB.out)); replace BK362 := Aside0.mk (blk_below (g := gb362) (o := .cells #[.int .i64 t360, .int .i64 t361] 42 (0, 0)) (by (with_reducible repeat (first | refine blk_drewN ?_ _ | refine blk_drew ?_ | refine blk_alloc ?_ _)); refine blk_put (cs := #[.int .i64 t360, .int .i64 0]) ?_ 1 _ rfl; (with_reducible repeat (first | refine blk_drewN ?_ _ | refine blk_drew ?_ | refine blk_alloc ?_ _)); refine blk_put (cs := #[.int .i64 0, .int .i64 0]) ?_ 0 _ rfl; (with_reducible repeat (first | refine blk_drewN ?_ _ | refine blk_drew ?_ | refine blk_alloc ?_ _)); exact BK362.out) hb); replace HB := Aside0.mk (bs_ HB.out hb); (try clear hb); (try clear ho0); (try clear ho1)) | ((with_reducible refine gate_dst (N := 4) rfl ?_); refine box_event ?hg (N := 4) ?hd (cs := #[.slice none 0 0, .slice none 0 0]) (t := 70) ?hr ?_; (case hd => rfl); (case hg => rfl); (case hr => first | (go_simp; done) | (go_simp; rfl)); intro gb370 hg w_0 hbox hb; replace HO365 := Aside0.mk (Kd.R_below (ra_ HO365.out) hb); replace HO368 := Aside0.mk (Kd.R_below (ra_ HO368.out) hb); have BK370 := Aside0.mk (hbox); have GW370 := Aside0.mk ((by rw [hg]; exact (bz_ HB.out) : w.heap.size ≤ gb370)); have GE370 := Aside0.mk ((by rw [hg]; exact (bz_ HB.out) : w.heap.size ≤ gb370)); replace HB := Aside0.mk (bs_ HB.out hb); have NB362_370 := Aside0.mk ((by rw [hg]; exact Nat.ne_of_lt (bl_ BK362.out) : gb362 ≠ gb370)); have NB370_362 := Aside0.mk ((by rw [hg]; exact Nat.ne_of_gt (bl_ BK362.out) : gb370 ≠ gb362)); replace BK362 := Aside0.mk (bk_ BK362.out hb); clear hb hbox hg; obtain ⟨Ao15, co15, eo15⟩ := Kd.R_slice HO365.out; subst eo15; have hnb_ := NB370_362.out; have hnc_ := NB362_370.out; obtain ⟨hcz_0, hcz_1, hfz_0, hfz_1⟩ := cz2_ BK370.out; obtain ⟨Ao18, co18, eo18⟩ := Kd.R_slice HO368.out; subst eo18; obtain ⟨hcz__0, hcz__1, hfz__0, hfz__1⟩ := cz2_ BK362.out) | ((with_reducible refine gate_dst (N := 6) rfl ?_); refine box_event ?hg (N := 6) ?hd (cs := #[.int .i64 0, .int .i64 0, .slice none 0 0]) (t := 44) ?hr ?_; (case hd => rfl); (case hg => rfl); (case hr => first | (go_simp; done) | (go_simp; rfl)); intro gb371 hg w_0 hbox hb; replace HO365 := Aside0.mk (Kd.R_below (rm_ (Kd.R_types HO365.out BK370.out (by decide)) (fun _ h_ => h_.1)) hb); replace HO368 := Aside0.mk (Kd.R_below (rm_ (Kd.R_types HO368.out BK370.out (by decide)) (fun _ h_ => h_.1)) hb); have BK371 := Aside0.mk (hbox); have GW371 := Aside0.mk ((by rw [hg]; exact (bz_ HB.out) : w.heap.size ≤ gb371)); have GE371 := Aside0.mk ((by rw [hg]; exact (bz_ HB.out) : w.heap.size ≤ gb371)); replace HB := Aside0.mk (bs_ HB.out hb); have NB362_371 := Aside0.mk ((by rw [hg]; exact Nat.ne_of_lt (blk_lt (g := gb362) (o := .cells #[.int .i64 t360, .int .i64 t361] 42 (0, 0)) (by (with_reducible repeat (first | refine blk_drewN ?_ _ | refine blk_drew ?_ | refine blk_alloc ?_ _)); refine blk_far ?_ NB362_370.out _; (with_reducible repeat (first | refine blk_drewN ?_ _ | refine blk_drew ?_ | refine blk_alloc ?_ _)); refine blk_far ?_ NB362_370.out _; (with_reducible repeat (first | refine blk_drewN ?_ _ | refine blk_drew ?_ | refine blk_alloc ?_ _)); exact BK362.out)) : gb362 ≠ gb371)); have NB371_362 := Aside0.mk ((by rw [hg]; exact Nat.ne_of_gt (blk_lt (g := gb362) (o := .cells #[.int .i64 t360, .int .i64 t361] 42 (0, 0)) (by (with_reducible repeat (first | refine blk_drewN ?_ _ | refine blk_drew ?_ | refine blk_alloc ?_ _)); refine blk_far ?_ NB362_370.out _; (with_reducible repeat (first | refine blk_drewN ?_ _ | refine blk_drew ?_ | refine blk_alloc ?_ _)); refine blk_far ?_ NB362_370.out _; (with_reducible repeat (first | refine blk_drewN ?_ _ | refine blk_drew ?_ | refine blk_alloc ?_ _)); exact BK362.out)) : gb371 ≠ gb362)); replace BK362 := Aside0.mk (blk_below (bf_ BK362.out) hb); have NB370_371 := Aside0.mk ((by rw [hg]; exact Nat.ne_of_lt (blk_lt (g := gb370) (o := .cells #[.slice Ao15 t363.length co15, .slice Ao18 t366.length co18] 70 (0, 0)) (by (with_reducible repeat (first | refine blk_drewN ?_ _ | refine blk_drew ?_ | refine blk_alloc ?_ _)); refine blk_put (cs := #[.slice Ao15 t363.length co15, .slice none 0 0]) ?_ 1 _ rfl; (with_reducible repeat (first | refine blk_drewN ?_ _ | refine blk_drew ?_ | refine blk_alloc ?_ _)); refine blk_put (cs := #[.slice none 0 0, .slice none 0 0]) ?_ 0 _ rfl; (with_reducible repeat (first | refine blk_drewN ?_ _ | refine blk_drew ?_ | refine blk_alloc ?_ _)); exact BK370.out)) : gb370 ≠ gb371)); have NB371_370 := Aside0.mk ((by rw [hg]; exact Nat.ne_of_gt (blk_lt (g := gb370) (o := .cells #[.slice Ao15 t363.length co15, .slice Ao18 t366.length co18] 70 (0, 0)) (by (with_reducible repeat (first | refine blk_drewN ?_ _ | refine blk_drew ?_ | refine blk_alloc ?_ _)); refine blk_put (cs := #[.slice Ao15 t363.length co15, .slice none 0 0]) ?_ 1 _ rfl; (with_reducible repeat (first | refine blk_drewN ?_ _ | refine blk_drew ?_ | refine blk_alloc ?_ _)); refine blk_put (cs := #[.slice none 0 0, .slice none 0 0]) ?_ 0 _ rfl; (with_reducible repeat (first | refine blk_drewN ?_ _ | refine blk_drew ?_ | refine blk_alloc ?_ _)); exact BK370.out)) : gb371 ≠ gb370)); replace BK370 := Aside0.mk (blk_below (g := gb370) (o := .cells #[.slice Ao15 t363.length co15, .slice Ao18 t366.length co18] 70 (0, 0)) (by (with_reducible repeat (first | refine blk_drewN ?_ _ | refine blk_drew ?_ | refine blk_alloc ?_ _)); refine blk_put (cs := #[.slice Ao15 t363.length co15, .slice none 0 0]) ?_ 1 _ rfl; (with_reducible repeat (first | refine blk_drewN ?_ _ | refine blk_drew ?_ | refine blk_alloc ?_ _)); refine blk_put (cs := #[.slice none 0 0, .slice none 0 0]) ?_ 0 _ rfl; (with_reducible repeat (first | refine blk_drewN ?_ _ | refine blk_drew ?_ | refine blk_alloc ?_ _)); exact BK370.out) hb); clear hb hbox hg; have hnb_ := NB371_362.out; have hnc_ := NB362_371.out; have hnb_ := NB371_370.out; have hnc_ := NB370_371.out; obtain ⟨hcz_0, hcz_1, hcz_2, hfz_0, hfz_1, hfz_2⟩ := cz3_ BK371.out; obtain ⟨hcz__0, hcz__1, hfz__0, hfz__1⟩ := cz2_ BK370.out) | (go_at_call 55; (refine (impl_ClassesOk.calls k t360 t361 _ _ ([] : List Int) _ _ t363 _ _ t366 _ _ ?side1 ?side2 ?side3 ?side4 ?side5 ?side6 A7.out).mono ?_); (case side1 => exact Kd.C_nil _ _); (case side2 => exact Nat.le_refl _); (case side3 => refine (Kd.R_reads' (e := 3) (base := w.heap.size) (ok := fun k_ => some k_ ≠ (.slice Ao18 t366.length co18 : Value).ownBlock) (n := t363.length) (c := co15) ?_).2.2; exact (rm_ (Kd.R_types HO365.out BK371.out (by decide)) (fun _ h_ => h_.1))); (case side4 => exact (Kd.R_reads' HO365.out).2.1); (case side5 => refine (Kd.R_reads' (e := 3) (base := w.heap.size) (ok := fun k_ => some k_ ≠ (.slice Ao15 t363.length co15 : Value).ownBlock) (n := t366.length) (c := co18) ?_).2.2; exact (rm_ (Kd.R_types HO368.out BK371.out (by decide)) (fun _ h_ => h_.1))); (case side6 => exact (Kd.R_reads' HO368.out).2.1); rintro e w_0 ⟨rfl, hb⟩; replace HO365 := Aside0.mk (Kd.R_below (rm_ (Kd.R_types HO365.out BK371.out (by decide)) (fun _ h_ => h_.1)) hb); replace HO368 := Aside0.mk (Kd.R_below (rm_ (Kd.R_types HO368.out BK371.out (by decide)) (fun _ h_ => h_.1)) hb); replace BK362 := Aside0.mk (blk_below (bf_ BK362.out) hb); replace BK370 := Aside0.mk (blk_below (bf_ BK370.out) hb); replace BK371 := Aside0.mk (blk_below (g := gb371) (o := .cells #[.int .i64 t360, .int .i64 t361, .slice none 0 0] 44 (0, 0)) (by (with_reducible repeat (first | refine blk_drewN ?_ _ | refine blk_drew ?_ | refine blk_alloc ?_ _)); refine blk_put (cs := #[.int .i64 t360, .int .i64 t361, .slice none 0 0]) ?_ 2 _ rfl; (with_reducible repeat (first | refine blk_drewN ?_ _ | refine blk_drew ?_ | refine blk_alloc ?_ _)); refine blk_put (cs := #[.int .i64 t360, .int .i64 0, .slice none 0 0]) ?_ 1 _ rfl; (with_reducible repeat (first | refine blk_drewN ?_ _ | refine blk_drew ?_ | refine blk_alloc ?_ _)); refine blk_put (cs := #[.int .i64 0, .int .i64 0, .slice none 0 0]) ?_ 0 _ rfl; (with_reducible repeat (first | refine blk_drewN ?_ _ | refine blk_drew ?_ | refine blk_alloc ?_ _)); exact BK371.out) hb); replace HB := Aside0.mk (bs_ HB.out hb); (try clear hb); obtain ⟨hcz_0, hcz_1, hcz_2, hfz_0, hfz_1, hfz_2⟩ := cz3_ BK371.out; obtain ⟨hcz__0, hcz__1, hfz__0, hfz__1⟩ := cz2_ BK370.out) | (go_at_call 56; (refine (impl_CheckClasses.calls k t360 t361 _ _ ([] : List Int) _ _ t363 _ _ t366 t373 t374 t377 _ ?side1 ?side2 ?side3 ?side4 ?side5 ?side6 A9.out).mono ?_); (case side1 => exact Kd.C_nil _ _); (case side2 => exact Nat.le_refl _); (case side3 => repeat (first | exact (Kd.R_reads' HO365.out).2.2 | (with_reducible refine Kd.C_alloc ?_ _) | (with_reducible refine Kd.C_drewN ?_ _) | (with_reducible refine Kd.C_drew ?_))); (case side4 => exact (Kd.R_reads' HO365.out).2.1); (case side5 => repeat (first | exact (Kd.R_reads' HO368.out).2.2 | (with_reducible refine Kd.C_alloc ?_ _) | (with_reducible refine Kd.C_drewN ?_ _) | (with_reducible refine Kd.C_drew ?_))); (case side6 => exact (Kd.R_reads' HO368.out).2.1); rintro e w_0 ⟨v375, v378, rfl, ho0, ho1, hb⟩; have HO376 := Aside0.mk (Kd.R_lower (Kd.R_new' (Kd.R_new' ho0 (rl_ HO365.out)) (rl_ HO368.out)) (bz_ HB.out)); have HO379 := Aside0.mk (Kd.R_lower (Kd.R_new' (Kd.R_new' ho1 (rl_ HO365.out)) (rl_ HO368.out)) (bz_ HB.out)); replace HO365 := Aside0.mk (Kd.R_mono (Kd.R_told (Kd.R_told (Kd.R_old (ra_ HO365.out) hb) (Kd.R_base ho0)) (Kd.R_base ho1)) (fun _ h_ => h_.1)); replace HO368 := Aside0.mk (Kd.R_mono (Kd.R_told (Kd.R_told (Kd.R_old (ra_ HO368.out) hb) (Kd.R_base ho0)) (Kd.R_base ho1)) (fun _ h_ => h_.1)); replace BK362 := Aside0.mk (bk_ BK362.out hb); replace BK370 := Aside0.mk (bk_ BK370.out hb); replace BK371 := Aside0.mk (bk_ BK371.out hb); replace HB := Aside0.mk (bs_ HB.out hb); (try clear hb); (try clear ho0); (try clear ho1)))
 go_ret
 exact ⟨fin_, bb_ HB.out⟩) : P := h
set_option maxHeartbeats 8000000 in
set_option maxRecDepth 100000 in
theorem laws_FnSplitSafe.calls (k : Nat) (A0 : Option Addr) (c0 : Nat) (l0 : List Int) (r : Bool) (w : World) (hr0 : Kd.C (Kd.int .u8) w A0 l0.length l0) (hc0 : l0.length ≤ c0) (h : laws_FnSplitSafe.f k l0 = some r) :
  Calls Try.prog 11 #[.slice A0 l0.length c0] w fun e w' => e = .returned (.bool r) ∧ Below w.heap.size w w' := by
 have hu40 := Try.underlying40
 have hu42 := Try.underlying42
 have hu70 := Try.underlying70
 have hu44 := Try.underlying44
 have HR0 := Aside0.mk hr0
 have HC0 := Aside0.mk hc0
 clear hr0 hc0
 have HB := Aside0.mk (Below.refl w.heap.size w)
 have H : ((laws_big.f l0).bind fun t359 => (if t359 = true then (some true) else ((spec_DrawGrid.f k l0).bind fun bt360 => ((impl_SplitClasses.f k bt360.1 bt360.2).bind fun bt363 => (if bt363.2.2 = true then ((impl_ClassesOk.f k bt360.1 bt360.2 ([] : List Int) bt363.1 bt363.2.1).bind fun t372 => (if t372 = true then ((impl_CheckClasses.f k bt360.1 bt360.2 ([] : List Int) bt363.1 bt363.2.1).bind fun bt373 => (some (bt373.1 == 1))) else (none))) else (none)))))) = some r := h
 clear h
 replace H := Option.bind_eq_some_iff.mp H
 obtain ⟨t359, A20, H⟩ := H
 try dsimp only at H
 have A2 := Aside0.mk A20
 clear A20
 by_cases c3 : t359 = true
 ·subst c3
  rw [if_pos rfl] at H
  obtain rfl := Option.some.inj H
  exact laws_FnSplitSafe.e0
 ·replace c3 := Bool.eq_false_iff.mpr c3
  subst c3
  rw [if_neg (show ¬ (false = true) by decide)] at H
  replace H := Option.bind_eq_some_iff.mp H
  obtain ⟨⟨t360, t361⟩, A40, H⟩ := H
  try dsimp only at H
  have A4 := Aside0.mk A40
  clear A40
  replace H := Option.bind_eq_some_iff.mp H
  obtain ⟨⟨t363, t366, t369⟩, A50, H⟩ := H
  try dsimp only at H
  have A5 := Aside0.mk A50
  clear A50
  by_cases c6 : t369 = true
  ·subst c6
   rw [if_pos rfl] at H
   replace H := Option.bind_eq_some_iff.mp H
   obtain ⟨t372, A70, H⟩ := H
   try dsimp only at H
   have A7 := Aside0.mk A70
   clear A70
   by_cases c8 : t372 = true
   ·subst c8
    rw [if_pos rfl] at H
    replace H := Option.bind_eq_some_iff.mp H
    obtain ⟨⟨t373, t374, t377⟩, A90, H⟩ := H
    try dsimp only at H
    have A9 := Aside0.mk A90
    clear A90
    obtain rfl := Option.some.inj H
    exact laws_FnSplitSafe.e0
   ·replace c8 := Bool.eq_false_iff.mpr c8
    subst c8
    rw [if_neg (show ¬ (false = true) by decide)] at H
    exact absurd H (by simp)
  ·replace c6 := Bool.eq_false_iff.mpr c6
   subst c6
   rw [if_neg (show ¬ (false = true) by decide)] at H
   exact absurd H (by simp)

/-- THE ONE PURE STATEMENT of laws_FnSplitSafe: yours. -/
def laws_FnSplitSafe.Pure : Prop := ∀ (l0 : List Int), l0.length ≤ maxLen → l0.length * 1 ≤ 140737488351232 → (∀ x ∈ l0, (Lit.int .u8 x).wf = true) → ∃ k, laws_FnSplitSafe.f k l0 = some true
theorem laws_FnSplitSafe.walk (P : laws_FnSplitSafe.Pure) (a0 : Option Addr) (len0 cap0 : Nat) (z0 : List Int) (w : World) (w0 : (a0 = none ∧ len0 = 0 ∧ cap0 = 0 ∧ z0 = []) ∨ ∃ x, a0 = some x ∧ len0 ≤ cap0 ∧ cap0 ≤ maxLen ∧ z0.length = cap0 ∧ (∀ i, i < z0.length → w.cell? (x.add i) = some (.int .u8 (z0.getD i 0))) ∧ ∀ n ∈ z0, (Lit.int .u8 n).wf = true) (y0 : len0 * 1 ≤ 140737488351232) :
  Calls Try.prog 11 #[.slice a0 len0 cap0] w fun e w' => e = .returned (.bool true) ∧ Below w.heap.size w w' := by
 obtain ⟨l0, rfl, hr0, hm0, hw0, hc0⟩ := ReadsInt.ofRowC w0
 obtain ⟨k, h⟩ := P l0 hm0 y0 hw0
 refine (laws_FnSplitSafe.calls k _ _ l0 true w (Kd.C_of_reads (d := (0 : Int)) (h1 := fun _ => rfl) hr0) hc0 h).mono ?_
 rintro e w' ⟨rfl, hd⟩
 exact ⟨rfl, hd⟩

end Go.Proofs.Ytimdefbpoddoaaa.PFnSplitSafe
-- thin
