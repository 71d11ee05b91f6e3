/- The law's functions as plain functions, and their calls. No condition. -/
import Derived.Test.YtimdefbpoddoaaaGreatPFnExactCheckClassesx0
import Derived.Test.YtimdefbpoddoaaaGreatPFnExactCheckClassesx11
namespace Go.Proofs.YtimdefbpoddoaaaGreat.PFnExactCheckClasses
open Go.RowKit Go.Proofs.YtimdefbpoddoaaaGreatW.PrintWords Go.Proofs.YtimdefbpoddoaaaGreatW.PrintLast Go.Proofs.YtimdefbpoddoaaaGreatW.PrintMore
attribute [local go_sem] max2_int min2_int max_two min_two max_three min_three max_four min_four
set_option linter.unusedVariables false
set_option maxHeartbeats 8000000
set_option maxRecDepth 100000
set_option linter.unusedSimpArgs false

/-! ### spec_l10Depths: function 63 -/
mutual
def spec_l10Depths.l0 : Nat → List (S98) → List Int → List Int → Int → Option (List Int)
 | 0, _, _, _, _ => none
 | k + 1, x0, x5, x6, x7 => if (x6.length : Int) > 0 then (spec_l10Depths.l1 k x0 x5 x6 x7 (([] : List Int)) 0) else (some x5)
def spec_l10Depths.l1 : Nat → List (S98) → List Int → List Int → Int → List Int → Int → Option (List Int)
 | 0, _, _, _, _, _, _ => none
 | k + 1, x0, x5, x6, x7, x8, x9 => if x9 < (x6.length : Int) then (if 0 ≤ x9 then ((spec_SuccessorsOf.f k x0 (rd x6 x9)).bind fun t330 => (spec_l10Depths.l2 k x0 x5 x6 x7 x8 x9 t330 0)) else (none)) else (spec_l10Depths.l0 k x0 x5 x8 (wrap64 (x7 + 1)))
def spec_l10Depths.l2 : Nat → List (S98) → List Int → List Int → Int → List Int → Int → List Int → Int → Option (List Int)
 | 0, _, _, _, _, _, _, _, _ => none
 | k + 1, x0, x5, x6, x7, x8, x9, x10, x11 => if x11 < (x10.length : Int) then (if 0 ≤ x11 then (if 0 ≤ (rd x10 x11) then (if (rd x10 x11) < (x5.length : Int) then (if (rd x5 (rd x10 x11)) = 0 then (if x8.length < 17592186044416 then (spec_l10Depths.l2 k x0 (x5.set ((rd x10 x11) : Int).toNat x7) x6 x7 (x8 ++ [rd x10 x11]) x9 x10 (wrap64 (x11 + 1))) else (none)) else (spec_l10Depths.l2 k x0 x5 x6 x7 x8 x9 x10 (wrap64 (x11 + 1)))) else (none)) else (none)) else (none)) else (spec_l10Depths.l1 k x0 x5 x6 x7 x8 (wrap64 (x9 + 1)))
end
def spec_l10Depths.f (k : Nat) (l0 : List (S98)) (a1 : Int) : Option (List Int) := if 128 ≤ 35184372088832 then (spec_l10Depths.l0 k l0 (List.replicate 128 0) (([a1] : List Int)) 1) else (none)
theorem spec_l10Depths.mono_l : ∀ k, (∀ y0 y1 y2 y3, LeO (spec_l10Depths.l0 k y0 y1 y2 y3) (spec_l10Depths.l0 (k + 1) y0 y1 y2 y3)) ∧ (∀ y0 y1 y2 y3 y4 y5, LeO (spec_l10Depths.l1 k y0 y1 y2 y3 y4 y5) (spec_l10Depths.l1 (k + 1) y0 y1 y2 y3 y4 y5)) ∧ (∀ y0 y1 y2 y3 y4 y5 y6 y7, LeO (spec_l10Depths.l2 k y0 y1 y2 y3 y4 y5 y6 y7) (spec_l10Depths.l2 (k + 1) y0 y1 y2 y3 y4 y5 y6 y7))
 | 0 => ⟨fun _ _ _ _ r h => by simp [spec_l10Depths.l0] at h, fun _ _ _ _ _ _ r h => by simp [spec_l10Depths.l1] at h, fun _ _ _ _ _ _ _ _ r h => by simp [spec_l10Depths.l2] at h⟩
 | k + 1 => by
  obtain ⟨ih0, ih1, ih2⟩ := spec_l10Depths.mono_l k
  refine ⟨?_, ?_, ?_⟩
  ·intro y0 y1 y2 y3
   unfold spec_l10Depths.l0
   repeat' (with_reducible first | exact ih0 .. | exact ih1 .. | exact ih2 .. | exact spec_SuccessorsOf.mono .. | exact LeO.refl .. | exact LeO.none .. | refine LeO.ite ?_ ?_ | refine LeO.bind ?_ (fun _ => ?_))
  ·intro y0 y1 y2 y3 y4 y5
   unfold spec_l10Depths.l1
   repeat' (with_reducible first | exact ih0 .. | exact ih1 .. | exact ih2 .. | exact spec_SuccessorsOf.mono .. | exact LeO.refl .. | exact LeO.none .. | refine LeO.ite ?_ ?_ | refine LeO.bind ?_ (fun _ => ?_))
  ·intro y0 y1 y2 y3 y4 y5 y6 y7
   unfold spec_l10Depths.l2
   repeat' (with_reducible first | exact ih0 .. | exact ih1 .. | exact ih2 .. | exact spec_SuccessorsOf.mono .. | exact LeO.refl .. | exact LeO.none .. | refine LeO.ite ?_ ?_ | refine LeO.bind ?_ (fun _ => ?_))
theorem spec_l10Depths.mono : ∀ a0 a1 k, LeO (spec_l10Depths.f k a0 a1) (spec_l10Depths.f (k + 1) a0 a1) := by
 intro a0 a1 k
 obtain ⟨ih0, ih1, ih2⟩ := spec_l10Depths.mono_l k
 unfold spec_l10Depths.f
 repeat' (with_reducible first | exact ih0 .. | exact ih1 .. | exact ih2 .. | exact spec_SuccessorsOf.mono .. | exact LeO.refl .. | exact LeO.none .. | refine LeO.ite ?_ ?_ | refine LeO.bind ?_ (fun _ => ?_))
theorem spec_l10Depths.calls (k : Nat) (A0 : Option Addr) (c0 : Nat) (l0 : List (S98)) (a1 : Int) (r : List Int) (w : World) (hr0 : Kd.C k98 w A0 l0.length l0) (hc0 : l0.length ≤ c0) (h : spec_l10Depths.f k l0 a1 = some r) :
  Calls Tryz.prog 63 #[.slice A0 l0.length c0, .int .i64 a1] w fun e w' => ∃ v0_ : Value, e = .returned (v0_) ∧ Kd.R (Kd.int .i64) 3 w' w.heap.size (fun _ => True) v0_ r ∧ Below w.heap.size w w' := by
 have HR0 := Aside0.mk hr0
 have HC0 := Aside0.mk hc0
 clear hr0 hc0
 have HB := Aside0.mk (Below.refl w.heap.size w)
 have H : (if 128 ≤ 35184372088832 then (spec_l10Depths.l0 k l0 (List.replicate 128 0) (([a1] : List Int)) 1) else (none)) = some r := h
 clear h
 by_cases c3 : 128 ≤ 35184372088832
 ·rw [if_pos c3] at H
  have c3b0 := eq_true c3
  have c3b1 : decide (128 ≤ 35184372088832) = true := decide_eq_true c3
  clear c3
  obtain ⟨y320, hy320⟩ : ∃ y_ : List Int, y_ = (List.replicate 128 0) := ⟨_, rfl⟩
  replace H : (spec_l10Depths.l0 k l0 y320 (([a1] : List Int)) 1) = some r := by first | (rw [hy320]; with_reducible exact H) | (have H2_ := (Option.bind_some _ _).symm.trans H; rw [hy320]; with_reducible exact H2_) | (have H2_ := (Option.bind_some _ _).symm.trans H; with_reducible exact H2_) | with_reducible exact H | (rw [hy320]; exact H) | exact H
  have Ny320 := Aside0.mk hy320
  clear hy320
  obtain ⟨y323, hy323⟩ : ∃ y_ : List Int, y_ = (([a1] : List Int)) := ⟨_, rfl⟩
  replace H : (spec_l10Depths.l0 k l0 y320 y323 1) = some r := by first | (rw [hy323]; with_reducible exact H) | (have H2_ := (Option.bind_some _ _).symm.trans H; rw [hy323]; with_reducible exact H2_) | (have H2_ := (Option.bind_some _ _).symm.trans H; with_reducible exact H2_) | with_reducible exact H | (rw [hy323]; exact H) | exact H
  have Ny323 := Aside0.mk hy323
  clear hy323
  have H' := Aside0.mk H
  clear H
  go_enter Tryz.func63, Tryz.ntmps63
  go_wp2_with (first | ((with_reducible refine gate_dst (N := 12) rfl ?_); refine Kd.R_make (Kd.int .i64) _ 3 rfl (N := 12) rfl 24 _ _ rfl 128 rfl rfl Tryz.underlying24 (.int .i64 0) 8 info3 rfl (by decide) (by omega) 0 (ok := fun _ => True) (okp := fun _ => True) rfl (fun _ hk => hk) trivial (by omega) (by omega) (Below.refl _ _) (Nat.le_refl _) ?_; intro v321 w4 ho5 hb hg_ hnew_; clear hg_ hnew_; (first | rw [← Ny320.out] at ho5 | (simp only [Int.reduceToNat] at ho5; rw [← Ny320.out] at ho5)); have HO322 := Aside0.mk (Kd.R_lower ho5 (bz_ HB.out)); replace HB := hs_ HB hb; clear hb ho5) | ((with_reducible refine gate_dst (N := 14) rfl ?_); refine Kd.R_lit (Kd.int .i64) _ 3 ?hg (N := 14) ?hd (xs := ([a1] : List Int)) (inner := [.int .i64 a1]) (ok := fun _ => True) (okp := fun _ => True) ?hr ?hp (fun _ hk => hk) trivial (Below.refl _ _) (Nat.le_refl _) (by simp) ?_; (case hd => rfl); (case hg => rfl); (case hr => first | (go_simp; done) | (go_simp; rfl)); (case hp => exact (Reps.one (show Kd.M (Kd.int .i64) _ _ _ a1 [.int .i64 a1] from rfl) (Reps.none _ _))); intro v324 w6 ho7 hb hg_ hnew_; clear hg_ hnew_; (first | rw [← Ny323.out] at ho7 | (simp only [Int.reduceToNat] at ho7; rw [← Ny323.out] at ho7)); have HO325 := Aside0.mk (Kd.R_lower (Kd.R_new' ho7 (rl_ HO322.out)) (bz_ HB.out)); replace HO322 := re_ HO322 ho7 hb; replace HB := hs_ HB hb; clear hb ho7))
  go_loopg [6, 7] k (fun kq v6 v7 w' => ∃ (x5_1 : List Int) (x6_1 : List Int) (x7_1 : Int), v7 = .int .i64 x7_1 ∧ Aside0 (spec_l10Depths.l0 kq l0 x5_1 x6_1 x7_1 = some r) ∧ Aside0 (kq ≤ k) ∧ Aside0 (Kd.R (Kd.int .i64) 3 w' w.heap.size (fun k_ => some k_ ≠ (v6 : Value).ownBlock) v321 x5_1) ∧ Aside0 (Kd.R (Kd.int .i64) 3 w' w.heap.size (fun k_ => some k_ ≠ (v321 : Value).ownBlock) v6 x6_1) ∧ Aside0 (Below w.heap.size w w'))
  case atStart => exact ⟨(y320), (y323), (1), ef_, H', ⟨Nat.le_refl _⟩, ⟨by (with_reducible repeat (first | apply Kd.R_alloc | apply Kd.R_drewN | apply Kd.R_drew)); exact Kd.R_mono HO322.out (fun _ hk => hk.2)⟩, ⟨by (with_reducible repeat (first | apply Kd.R_alloc | apply Kd.R_drewN | apply Kd.R_drew)); exact Kd.R_mono HO325.out (fun _ hk => hk.2)⟩, ⟨bb_ HB.out⟩⟩
  clear H'
  try clear c3
  try clear c3b0
  try clear c3b1
  obtain ⟨x5_1, x6_1, x7_1, rfl, HA, HK1, HO_5, HO_6, HB⟩ := hrel
  obtain _ | k1 := gk
  ·exact absurd HA.out (by simp [spec_l10Depths.l0])
  have H := HA.out
  clear HA
  simp only [spec_l10Depths.l0] at H
  by_cases c8 : (x6_1.length : Int) > 0
  rotate_left
  ·rw [if_neg c8] at H
   have c8b0 : decide (0 < (x6_1.length : Int)) = false := decide_eq_false c8
   have c8b1 : decide (0 < x6_1.length) = false := decide_eq_false (by omega)
   clear c8
   obtain rfl := Option.some.inj H
   obtain ⟨Ao31, co31, eo31⟩ := Kd.R_slice HO_6.out
   subst eo31
   go_wp2
   go_ret
   exact ⟨_, fin_, by (with_reducible repeat (first | apply Kd.R_alloc | apply Kd.R_drewN | apply Kd.R_drew)); exact Kd.R_mono HO_5.out (fun _ hk => trivial), bb_ HB.out⟩
  rw [if_pos c8] at H
  have c8b0 : decide (0 < (x6_1.length : Int)) = true := decide_eq_true c8
  have c8b1 : decide (0 < x6_1.length) = true := decide_eq_true (by omega)
  clear c8
  obtain ⟨y326, hy326⟩ : ∃ y_ : List Int, y_ = (([] : List Int)) := ⟨_, rfl⟩
  replace H : (spec_l10Depths.l1 k1 l0 x5_1 x6_1 x7_1 y326 0) = some r := by first | (rw [hy326]; with_reducible exact H) | (have H2_ := (Option.bind_some _ _).symm.trans H; rw [hy326]; with_reducible exact H2_) | (have H2_ := (Option.bind_some _ _).symm.trans H; with_reducible exact H2_) | with_reducible exact H | (rw [hy326]; exact H) | exact H
  have Ny326 := Aside0.mk hy326
  clear hy326
  have H' := Aside0.mk H
  clear H
  obtain ⟨Ao9, co9, eo9⟩ := Kd.R_slice HO_6.out
  subst eo9
  go_wp2_with (first | ((with_reducible refine gate_dst (N := 20) rfl ?_); refine Kd.R_lit (Kd.int .i64) _ 3 ?hg (N := 20) ?hd (xs := ([] : List Int)) (inner := []) (ok := fun _ => True) (okp := fun _ => True) ?hr ?hp (fun _ hk => hk) trivial (Below.refl _ _) (Nat.le_refl _) (by simp) ?_; (case hd => rfl); (case hg => rfl); (case hr => first | (go_simp; done) | (go_simp; rfl)); (case hp => exact (Reps.none _ _)); intro v327 w10 ho11 hb hg_ hnew_; clear hg_ hnew_; (first | rw [← Ny326.out] at ho11 | (simp only [Int.reduceToNat] at ho11; rw [← Ny326.out] at ho11)); have HO328 := Aside0.mk (Kd.R_lower (Kd.R_new' (Kd.R_new' ho11 (rl_ HO_5.out)) (rl_ HO_6.out)) (bz_ HB.out)); replace HO_5 := re_ HO_5 ho11 hb; replace HO_6 := re_ HO_6 ho11 hb; replace HB := hs_ HB hb; clear hb ho11))
  go_loopg [8, 9] k1 (fun kq v8 v9 w' => ∃ (x5_2 : List Int) (x8_2 : List Int) (x9_2 : Int), v9 = .int .i64 x9_2 ∧ Aside0 (spec_l10Depths.l1 kq l0 x5_2 x6_1 x7_1 x8_2 x9_2 = some r) ∧ Aside0 (kq ≤ k1) ∧ Aside0 (Kd.R (Kd.int .i64) 3 w' w.heap.size (fun k_ => some k_ ≠ ((.slice Ao9 x6_1.length co9) : Value).ownBlock ∧ some k_ ≠ (v8 : Value).ownBlock) v321 x5_2) ∧ Aside0 (Kd.R (Kd.int .i64) 3 w' w.heap.size (fun k_ => some k_ ≠ (v321 : Value).ownBlock ∧ some k_ ≠ (v8 : Value).ownBlock) (.slice Ao9 x6_1.length co9) x6_1) ∧ Aside0 (Kd.R (Kd.int .i64) 3 w' w.heap.size (fun k_ => some k_ ≠ (v321 : Value).ownBlock ∧ some k_ ≠ ((.slice Ao9 x6_1.length co9) : Value).ownBlock) v8 x8_2) ∧ Aside0 (Below w.heap.size w w'))
  case atStart => exact ⟨(x5_1), (y326), (0), ef_, H', ⟨Nat.le_refl _⟩, ⟨ra_ HO_5.out⟩, ⟨ra_ HO_6.out⟩, ⟨by (with_reducible repeat (first | apply Kd.R_alloc | apply Kd.R_drewN | apply Kd.R_drew)); exact Kd.R_mono HO328.out (fun _ hk => ⟨hk.1.2, hk.2⟩)⟩, ⟨bb_ HB.out⟩⟩
  clear H'
  try clear c3
  try clear c3b0
  try clear c3b1
  try clear c8
  try clear c8b0
  try clear c8b1
  obtain ⟨x5_2, x8_2, x9_2, rfl, HA, HK2, HO_5, HO_6, HO_8, HB⟩ := hrel
  obtain _ | k2 := gk
  ·exact absurd HA.out (by simp [spec_l10Depths.l1])
  have H := HA.out
  clear HA
  simp only [spec_l10Depths.l1] at H
  by_cases c12 : x9_2 < (x6_1.length : Int)
  rotate_left
  ·rw [if_neg c12] at H
   have c12b0 : decide (x9_2 < (x6_1.length : Int)) = false := decide_eq_false c12
   clear c12
   have H' := Aside0.mk H
   clear H
   go_wp2
   go_roundg k2
   case measure => have := HK1.out; have := HK2.out; omega
   case rel => exact ⟨(x5_2), (x8_2), (wrap64 (x7_1 + 1)), ef_, H', ⟨by have := HK1.out; have := HK2.out; omega⟩, ⟨by (with_reducible repeat (first | apply Kd.R_alloc | apply Kd.R_drewN | apply Kd.R_drew)); exact Kd.R_mono HO_5.out (fun _ hk => hk.2)⟩, ⟨by (with_reducible repeat (first | apply Kd.R_alloc | apply Kd.R_drewN | apply Kd.R_drew)); exact Kd.R_mono HO_8.out (fun _ hk => hk.1)⟩, ⟨bb_ HB.out⟩⟩
  rw [if_pos c12] at H
  have c12b0 : decide (x9_2 < (x6_1.length : Int)) = true := decide_eq_true c12
  clear c12
  by_cases c13 : 0 ≤ x9_2
  rotate_left
  ·rw [if_neg c13] at H
   exact absurd H (by simp)
  rw [if_pos c13] at H
  have c13b0 : decide (0 ≤ x9_2) = true := decide_eq_true c13
  clear c13
  obtain ⟨t330, A14, H⟩ := bi_ H
  have H' := Aside0.mk H
  clear H
  have p329 : 0 ≤ (x9_2 : Int) := of_decide_eq_true dg_
  have q329 : x9_2 < (x6_1.length : Int) := of_decide_eq_true dg_
  obtain ⟨ad329, e329, hx329_0⟩ := Kd.at_int (Kd.R_reads' HO_6.out).2.2 x9_2 p329 q329
  cases e329
  replace p329 := eq_true p329
  replace q329 := eq_true q329
  go_wp2_with (first | ((with_reducible refine gate_callee (f := 62) rfl ?_); refine gm_ (some 32) Tryz.func62 #[.slice A0 l0.length c0, .int .i64 (rd x6_1 x9_2)] rfl ?_; (with_reducible refine (spec_SuccessorsOf.calls k2 _ _ l0 (rd x6_1 x9_2) t330 _ ?side1 HC0.out A14.out).mono ?_); (case side1 => exact cb_ HR0.out HB.out); rintro e w15 ⟨v331, rfl, ho0, hb⟩; refine ⟨_, rfl, ?_⟩; have HO332 := Aside0.mk (Kd.R_lower (Kd.R_new' (Kd.R_new' (Kd.R_new' ho0 (rl_ HO_5.out)) (rl_ HO_6.out)) (rl_ HO_8.out)) (bz_ HB.out)); replace HO_5 := re_ HO_5 ho0 hb; replace HO_6 := re_ HO_6 ho0 hb; replace HO_8 := re_ HO_8 ho0 hb; replace HB := hs_ HB hb; (try clear hb); (try clear ho0)))
  go_loopg [8, 11] k2 (fun kq v8 v11 w' => ∃ (x5_3 : List Int) (x8_3 : List Int) (x11_3 : Int), v11 = .int .i64 x11_3 ∧ Aside0 (spec_l10Depths.l2 kq l0 x5_3 x6_1 x7_1 x8_3 x9_2 t330 x11_3 = some r) ∧ Aside0 (kq ≤ k2) ∧ Aside0 (Kd.R (Kd.int .i64) 3 w' w.heap.size (fun k_ => some k_ ≠ ((.slice (some ad329) x6_1.length co9) : Value).ownBlock ∧ some k_ ≠ (v8 : Value).ownBlock ∧ some k_ ≠ (v331 : Value).ownBlock) v321 x5_3) ∧ Aside0 (Kd.R (Kd.int .i64) 3 w' w.heap.size (fun k_ => some k_ ≠ (v321 : Value).ownBlock ∧ some k_ ≠ (v8 : Value).ownBlock ∧ some k_ ≠ (v331 : Value).ownBlock) (.slice (some ad329) x6_1.length co9) x6_1) ∧ Aside0 (Kd.R (Kd.int .i64) 3 w' w.heap.size (fun k_ => some k_ ≠ (v321 : Value).ownBlock ∧ some k_ ≠ ((.slice (some ad329) x6_1.length co9) : Value).ownBlock ∧ some k_ ≠ (v331 : Value).ownBlock) v8 x8_3) ∧ Aside0 (Kd.R (Kd.int .i64) 3 w' w.heap.size (fun k_ => some k_ ≠ (v321 : Value).ownBlock ∧ some k_ ≠ ((.slice (some ad329) x6_1.length co9) : Value).ownBlock ∧ some k_ ≠ (v8 : Value).ownBlock) v331 t330) ∧ Aside0 (Below w.heap.size w w'))
  case atStart => exact ⟨(x5_2), (x8_2), (0), ef_, H', ⟨Nat.le_refl _⟩, ⟨by (with_reducible repeat (first | apply Kd.R_alloc | apply Kd.R_drewN | apply Kd.R_drew)); exact Kd.R_mono HO_5.out (fun _ hk => ⟨hk.1.1, ⟨hk.1.2, hk.2⟩⟩)⟩, ⟨by (with_reducible repeat (first | apply Kd.R_alloc | apply Kd.R_drewN | apply Kd.R_drew)); exact Kd.R_mono HO_6.out (fun _ hk => ⟨hk.1.1, ⟨hk.1.2, hk.2⟩⟩)⟩, ⟨by (with_reducible repeat (first | apply Kd.R_alloc | apply Kd.R_drewN | apply Kd.R_drew)); exact Kd.R_mono HO_8.out (fun _ hk => ⟨hk.1.1, ⟨hk.1.2, hk.2⟩⟩)⟩, ⟨by (with_reducible repeat (first | apply Kd.R_alloc | apply Kd.R_drewN | apply Kd.R_drew)); exact Kd.R_mono HO332.out (fun _ hk => ⟨hk.1.1.2, ⟨hk.1.2, hk.2⟩⟩)⟩, ⟨bb_ HB.out⟩⟩
  clear H'
  try clear c3
  try clear c3b0
  try clear c3b1
  try clear c8
  try clear c8b0
  try clear c8b1
  try clear c12
  try clear c12b0
  try clear c13
  try clear c13b0
  try clear hx329_0
  try clear p329
  try clear q329
  obtain ⟨x5_3, x8_3, x11_3, rfl, HA, HK3, HO_5, HO_6, HO_8, HO_10, HB⟩ := hrel
  obtain _ | k3 := gk
  ·exact absurd HA.out (by simp [spec_l10Depths.l2])
  have H := HA.out
  clear HA
  simp only [spec_l10Depths.l2] at H
  by_cases c16 : x11_3 < (t330.length : Int)
  rotate_left
  ·rw [if_neg c16] at H
   have c16b0 : decide (x11_3 < (t330.length : Int)) = false := decide_eq_false c16
   clear c16
   have H' := Aside0.mk H
   clear H
   obtain ⟨Ao30, co30, eo30⟩ := Kd.R_slice HO_10.out
   subst eo30
   go_wp2
   go_roundg k3
   case measure => have := HK1.out; have := HK2.out; have := HK3.out; omega
   case rel => exact ⟨(x5_3), (x8_3), (wrap64 (x9_2 + 1)), ef_, H', ⟨by have := HK1.out; have := HK2.out; have := HK3.out; omega⟩, ⟨by (with_reducible repeat (first | apply Kd.R_alloc | apply Kd.R_drewN | apply Kd.R_drew)); exact Kd.R_mono HO_5.out (fun _ hk => ⟨hk.1, hk.2.1⟩)⟩, ⟨by (with_reducible repeat (first | apply Kd.R_alloc | apply Kd.R_drewN | apply Kd.R_drew)); exact Kd.R_mono HO_6.out (fun _ hk => ⟨hk.1, hk.2.1⟩)⟩, ⟨by (with_reducible repeat (first | apply Kd.R_alloc | apply Kd.R_drewN | apply Kd.R_drew)); exact Kd.R_mono HO_8.out (fun _ hk => ⟨hk.1, hk.2.1⟩)⟩, ⟨bb_ HB.out⟩⟩
  rw [if_pos c16] at H
  have c16b0 : decide (x11_3 < (t330.length : Int)) = true := decide_eq_true c16
  clear c16
  by_cases c17 : 0 ≤ x11_3
  rotate_left
  ·rw [if_neg c17] at H
   exact absurd H (by simp)
  rw [if_pos c17] at H
  have c17b0 : decide (0 ≤ x11_3) = true := decide_eq_true c17
  clear c17
  by_cases c18 : 0 ≤ (rd t330 x11_3)
  rotate_left
  ·rw [if_neg c18] at H
   exact absurd H (by simp)
  rw [if_pos c18] at H
  have c18b0 : decide (0 ≤ (rd t330 x11_3)) = true := decide_eq_true c18
  clear c18
  by_cases c19 : (rd t330 x11_3) < (x5_3.length : Int)
  rotate_left
  ·rw [if_neg c19] at H
   exact absurd H (by simp)
  rw [if_pos c19] at H
  have c19b0 : decide ((rd t330 x11_3) < (x5_3.length : Int)) = true := decide_eq_true c19
  clear c19
  by_cases c20 : (rd x5_3 (rd t330 x11_3)) = 0
  rotate_left
  ·rw [if_neg c20] at H
   have c20b0 : ((rd x5_3 (rd t330 x11_3)) == 0) = false := beq_eq_false_iff_ne.mpr c20
   have c20b1 : ((rd x5_3 (rd t330 x11_3)) != 0) = true := bne_iff_ne.mpr c20
   have H' := Aside0.mk H
   clear H
   obtain ⟨Ao28, co28, eo28⟩ := Kd.R_slice HO_10.out
   subst eo28
   have p333 : 0 ≤ (x11_3 : Int) := of_decide_eq_true dg_
   have q333 : x11_3 < (t330.length : Int) := of_decide_eq_true dg_
   obtain ⟨ad333, e333, hx333_0⟩ := Kd.at_int (Kd.R_reads' HO_10.out).2.2 x11_3 p333 q333
   cases e333
   replace p333 := eq_true p333
   replace q333 := eq_true q333
   obtain ⟨Ao29, co29, eo29⟩ := Kd.R_slice HO_5.out
   subst eo29
   have p334 : 0 ≤ ((rd t330 x11_3) : Int) := of_decide_eq_true dg_
   have q334 : (rd t330 x11_3) < (x5_3.length : Int) := of_decide_eq_true dg_
   obtain ⟨ad334, e334, hx334_0⟩ := Kd.at_int (Kd.R_reads' HO_5.out).2.2 (rd t330 x11_3) p334 q334
   cases e334
   replace p334 := eq_true p334
   replace q334 := eq_true q334
   go_wp2
   go_roundg k3
   case measure => have := HK1.out; have := HK2.out; have := HK3.out; omega
   case rel => exact ⟨(x5_3), (x8_3), (wrap64 (x11_3 + 1)), ef_, H', ⟨by have := HK1.out; have := HK2.out; have := HK3.out; omega⟩, ⟨ra_ HO_5.out⟩, ⟨ra_ HO_6.out⟩, ⟨ra_ HO_8.out⟩, ⟨ra_ HO_10.out⟩, ⟨bb_ HB.out⟩⟩
  rw [if_pos c20] at H
  have c20b0 : ((rd x5_3 (rd t330 x11_3)) == 0) = true := beq_iff_eq.mpr c20
  have c20b1 : ((rd x5_3 (rd t330 x11_3)) != 0) = false := bne_eq_false_iff_eq.mpr c20
  clear c20
  obtain ⟨y336, hy336⟩ : ∃ y_ : List Int, y_ = (x5_3.set ((rd t330 x11_3) : Int).toNat x7_1) := ⟨_, rfl⟩
  replace H : (if x8_3.length < 17592186044416 then (spec_l10Depths.l2 k3 l0 y336 x6_1 x7_1 (x8_3 ++ [rd t330 x11_3]) x9_2 t330 (wrap64 (x11_3 + 1))) else (none)) = some r := by first | (rw [hy336]; with_reducible exact H) | (have H2_ := (Option.bind_some _ _).symm.trans H; rw [hy336]; with_reducible exact H2_) | (have H2_ := (Option.bind_some _ _).symm.trans H; with_reducible exact H2_) | with_reducible exact H | (rw [hy336]; exact H) | exact H
  have Ny336 := Aside0.mk hy336
  clear hy336
  by_cases c22 : x8_3.length < 17592186044416
  rotate_left
  ·rw [if_neg c22] at H
   exact absurd H (by simp)
  rw [if_pos c22] at H
  have LMc22 := Aside0.mk c22
  clear c22
  obtain ⟨y338, hy338⟩ : ∃ y_ : List Int, y_ = (x8_3 ++ [rd t330 x11_3]) := ⟨_, rfl⟩
  replace H : (spec_l10Depths.l2 k3 l0 y336 x6_1 x7_1 y338 x9_2 t330 (wrap64 (x11_3 + 1))) = some r := by first | (rw [hy338]; with_reducible exact H) | (have H2_ := (Option.bind_some _ _).symm.trans H; rw [hy338]; with_reducible exact H2_) | (have H2_ := (Option.bind_some _ _).symm.trans H; with_reducible exact H2_) | with_reducible exact H | (rw [hy338]; exact H) | exact H
  have Ny338 := Aside0.mk hy338
  clear hy338
  have H' := Aside0.mk H
  clear H
  obtain ⟨Ao23, co23, eo23⟩ := Kd.R_slice HO_10.out
  subst eo23
  have p333 : 0 ≤ (x11_3 : Int) := of_decide_eq_true dg_
  have q333 : x11_3 < (t330.length : Int) := of_decide_eq_true dg_
  obtain ⟨ad333, e333, hx333_0⟩ := Kd.at_int (Kd.R_reads' HO_10.out).2.2 x11_3 p333 q333
  cases e333
  replace p333 := eq_true p333
  replace q333 := eq_true q333
  obtain ⟨Ao24, co24, eo24⟩ := Kd.R_slice HO_5.out
  subst eo24
  have p334 : 0 ≤ ((rd t330 x11_3) : Int) := of_decide_eq_true dg_
  have q334 : (rd t330 x11_3) < (x5_3.length : Int) := of_decide_eq_true dg_
  obtain ⟨ad334, e334, hx334_0⟩ := Kd.at_int (Kd.R_reads' HO_5.out).2.2 (rd t330 x11_3) p334 q334
  cases e334
  replace p334 := eq_true p334
  replace q334 := eq_true q334
  have p335 : 0 ≤ (x11_3 : Int) := of_decide_eq_true dg_
  have q335 : x11_3 < (t330.length : Int) := of_decide_eq_true dg_
  obtain ⟨ad335, e335, hx335_0⟩ := Kd.at_int (Kd.R_reads' HO_10.out).2.2 x11_3 p335 q335
  obtain rfl : ad333 = ad335 := (by injection e335)
  replace p335 := eq_true p335
  replace q335 := eq_true q335
  have p21 : 0 ≤ ((rd t330 x11_3) : Int) := of_decide_eq_true dg_
  have q21 : ((rd t330 x11_3) : Int) < ((x5_3.length : Int) : Int) := of_decide_eq_true dg_
  obtain ⟨go21, co21, eo21, gb21, gl21, cl21, HG21⟩ := Kd.R_form HO_5.out (by omega)
  (first | cases eo21 | (injection eo21 with ea_ en_ ec_; (first | subst ea_ | (injection ea_ with ea_; subst ea_)); subst ec_; clear en_))
  have GB21 := Aside0.mk gb21
  have GG21 := Aside0.mk HG21
  clear gb21 gl21 HG21
  (first | simp only [add_plain] at hx334_0 | skip)
  obtain ⟨hx21_0, hf21_0⟩ := Kd.R_celln 0 HO_5.out ((rd t330 x11_3) : Int) p21 q21
  replace p21 := eq_true p21
  replace q21 := eq_true q21
  have HP25 := Kd.R_putg HO_5.out ((rd t330 x11_3) : Int) x7_1
  go_wp2_with (first | ((with_reducible refine gate_store (t := 3) (p := 53) rfl ?_); refine store_event (t := 3) (p := 53) (v := ?vo_w26) (w1 := (wr.setCell ⟨go21, ((rd t330 x11_3) : Int).toNat, none⟩ (.int .i64 x7_1))) ?hg ?ho ?hn ?hr ?_; (case ho => rfl); (case hg => rfl); (case hn => rfl); (case hr => first | (go_simp; done) | (go_simp; rfl)); intro w26 hw; have hg : wr.grownBy w26 (some go21) := (by rw [hw]; exact HP25.2); have hp_ : Kd.R (Kd.int .i64) 3 w26 w.heap.size (fun k_ => some k_ ≠ (.slice (some ad329) x6_1.length co9 : Value).ownBlock ∧ some k_ ≠ (u8 : Value).ownBlock ∧ some k_ ≠ (.slice (some ad333) t330.length co23 : Value).ownBlock) (.slice (some ⟨go21, 0, none⟩) x5_3.length co24) y336 := (by rw [hw, Ny336.out]; exact HP25.1); clear HP25; replace HO_5 := Aside0.mk (hp_); replace HO_6 := Aside0.mk (Kd.R_after (v := (.slice (some ⟨go21, 0, none⟩) x5_3.length co24)) (v1 := (.slice (some ⟨go21, 0, none⟩) x5_3.length co24)) (ok := (fun k_ => some k_ ≠ (u8 : Value).ownBlock ∧ some k_ ≠ (.slice (some ad333) t330.length co23 : Value).ownBlock)) (by (with_reducible repeat (first | apply Kd.R_alloc | apply Kd.R_drewN | apply Kd.R_drew)); exact Kd.R_mono HO_6.out (fun _ hk => ⟨⟨hk.2.1, hk.2.2⟩, hk.1⟩)) hg (.inl rfl)); replace HO_8 := Aside0.mk (Kd.R_after (v := (.slice (some ⟨go21, 0, none⟩) x5_3.length co24)) (v1 := (.slice (some ⟨go21, 0, none⟩) x5_3.length co24)) (ok := (fun k_ => some k_ ≠ (.slice (some ad329) x6_1.length co9 : Value).ownBlock ∧ some k_ ≠ (.slice (some ad333) t330.length co23 : Value).ownBlock)) (by (with_reducible repeat (first | apply Kd.R_alloc | apply Kd.R_drewN | apply Kd.R_drew)); exact Kd.R_mono HO_8.out (fun _ hk => ⟨⟨hk.2.1, hk.2.2⟩, hk.1⟩)) hg (.inl rfl)); replace HO_10 := Aside0.mk (Kd.R_after (v := (.slice (some ⟨go21, 0, none⟩) x5_3.length co24)) (v1 := (.slice (some ⟨go21, 0, none⟩) x5_3.length co24)) (ok := (fun k_ => some k_ ≠ (.slice (some ad329) x6_1.length co9 : Value).ownBlock ∧ some k_ ≠ (u8 : Value).ownBlock)) (by (with_reducible repeat (first | apply Kd.R_alloc | apply Kd.R_drewN | apply Kd.R_drew)); exact Kd.R_mono HO_10.out (fun _ hk => ⟨⟨hk.2.1, hk.2.2⟩, hk.1⟩)) hg (.inl rfl)); replace HB := Aside0.mk ((by rw [hw]; exact below_set (HB.out) GB21.out : Below w.heap.size w w26)); clear hg hw hp_; have p337 : 0 ≤ (x11_3 : Int) := of_decide_eq_true dg_; have q337 : x11_3 < (t330.length : Int) := of_decide_eq_true dg_; obtain ⟨ad337, e337, hx337_0⟩ := Kd.at_int (Kd.R_reads' HO_10.out).2.2 x11_3 p337 q337; obtain rfl : ad333 = ad337 := (by injection e337); replace p337 := eq_true p337; replace q337 := eq_true q337) | ((with_reducible refine gate_builtin (b := .append) (xs := #[.tmp 54, .tmp 59]) rfl ?_); at_builtin; refine Kd.R_append (Kd.int .i64) (w0 := w) w.heap.size rfl (.tmp 54) (.tmp 59) 24 3 (.int .i64 0) 8 rfl Tryz.underlying24 info3 rfl (by decide) (by omega) u8 x8_3 (rd t330 x11_3) [.int .i64 (rd t330 x11_3)] (fun k_ => some k_ ≠ (.slice (some ⟨go21, 0, none⟩) x5_3.length co24 : Value).ownBlock ∧ some k_ ≠ (.slice (some ad329) x6_1.length co9 : Value).ownBlock ∧ some k_ ≠ (.slice (some ad333) t330.length co23 : Value).ownBlock) (fun _ => False) rfl rfl ?aP (fun _ hk => hk.elim) ?aF ?aO ?aB ?aS ?aL ?_; (case aP => exact rfl); (case aB => exact (by repeat (first | (with_reducible first | exact HB.out | apply below_alloc | apply pw_below_drewN | apply below_drew1) | exact HB.out))); (case aF => exact (fun k_ hk => ⟨Kd.fresh' (rl_ HO_5.out) k_ hk, Kd.fresh' (rl_ HO_6.out) k_ hk, Kd.fresh' (rl_ HO_10.out) k_ hk⟩)); (case aO => exact (by (with_reducible repeat (first | apply Kd.R_alloc | apply Kd.R_drewN | apply Kd.R_drew)); exact Kd.R_mono HO_8.out (fun _ hk => ⟨hk.2, ⟨hk.1.1, hk.1.2⟩⟩))); (case aS => exact (bz_ HB.out)); (case aL => have := LMc22.out; omega); intro v339 w27 ho hb hg hat; rw [← Ny338.out] at ho; have n0_ := Aside0.mk (Kd.R_after (ok := (fun k_ => some k_ ≠ (.slice (some ad329) x6_1.length co9 : Value).ownBlock ∧ some k_ ≠ (.slice (some ad333) t330.length co23 : Value).ownBlock)) (by (with_reducible repeat (first | apply Kd.R_alloc | apply Kd.R_drewN | apply Kd.R_drew)); exact Kd.R_mono HO_5.out (fun _ hk => ⟨⟨hk.1, hk.2.2⟩, hk.2.1⟩)) hg hat); have n1_ := Aside0.mk (Kd.R_after (ok := (fun k_ => some k_ ≠ (.slice (some ⟨go21, 0, none⟩) x5_3.length co24 : Value).ownBlock ∧ some k_ ≠ (.slice (some ad333) t330.length co23 : Value).ownBlock)) (by (with_reducible repeat (first | apply Kd.R_alloc | apply Kd.R_drewN | apply Kd.R_drew)); exact Kd.R_mono HO_6.out (fun _ hk => ⟨⟨hk.2, hk.1.2⟩, hk.1.1⟩)) hg hat); have n2_ := Aside0.mk (Kd.R_after (ok := (fun k_ => some k_ ≠ (.slice (some ⟨go21, 0, none⟩) x5_3.length co24 : Value).ownBlock ∧ some k_ ≠ (.slice (some ad329) x6_1.length co9 : Value).ownBlock)) (by (with_reducible repeat (first | apply Kd.R_alloc | apply Kd.R_drewN | apply Kd.R_drew)); exact Kd.R_mono HO_10.out (fun _ hk => ⟨⟨hk.2, hk.1.1⟩, hk.1.2⟩)) hg hat); have n3_ := Aside0.mk (hb); have n4_ := Aside0.mk (ho); clear HO_5; clear HO_6; clear HO_10; clear HB; clear HO_8; have HO_5 := n0_; have HO_6 := n1_; have HO_10 := n2_; have HB := n3_; have HO340 := n4_; clear n0_ n1_ n2_ n3_ n4_; clear ho hb hg hat))
  go_roundg k3
  case measure => have := HK1.out; have := HK2.out; have := HK3.out; omega
  case rel => exact ⟨(y336), (y338), (wrap64 (x11_3 + 1)), ef_, H', ⟨by have := HK1.out; have := HK2.out; have := HK3.out; omega⟩, ⟨by (with_reducible repeat (first | apply Kd.R_alloc | apply Kd.R_drewN | apply Kd.R_drew)); exact Kd.R_mono HO_5.out (fun _ hk => ⟨hk.1.1, ⟨hk.2, hk.1.2⟩⟩)⟩, ⟨by (with_reducible repeat (first | apply Kd.R_alloc | apply Kd.R_drewN | apply Kd.R_drew)); exact Kd.R_mono HO_6.out (fun _ hk => ⟨hk.1.1, ⟨hk.2, hk.1.2⟩⟩)⟩, ⟨ra_ HO340.out⟩, ⟨by (with_reducible repeat (first | apply Kd.R_alloc | apply Kd.R_drewN | apply Kd.R_drew)); exact Kd.R_mono HO_10.out (fun _ hk => ⟨hk.1.1, ⟨hk.1.2, hk.2⟩⟩)⟩, ⟨bb_ HB.out⟩⟩
 ·rw [if_neg c3] at H
  exact absurd H (by simp)

end Go.Proofs.YtimdefbpoddoaaaGreat.PFnExactCheckClasses
-- thin
