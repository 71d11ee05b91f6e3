/- The law's functions as plain functions, and their calls. No condition. -/
import Derived.Test.YtimdefbpoddoaaaGreatPFnVerdictsx0
import Derived.Test.YtimdefbpoddoaaaGreatPFnVerdictsx10
namespace Go.Proofs.YtimdefbpoddoaaaGreat.PFnVerdicts
open Go.RowKit Go.Proofs.YtimdefbpoddoaaaGreatW.PrintWords Go.Proofs.YtimdefbpoddoaaaGreatW.PrintLast Go.Proofs.YtimdefbpoddoaaaGreatW.PrintMore
attribute [local go_sem] max2_int min2_int max_two min_two max_three min_three max_four min_four
set_option linter.unusedVariables false
set_option maxHeartbeats 8000000
set_option maxRecDepth 100000
set_option linter.unusedSimpArgs false

/-! ### impl_distancesTo: function 119 -/
mutual
def impl_distancesTo.l0 : Nat → List (S98) → Int → List Int → List Int → Int → Option (List Int)
 | 0, _, _, _, _, _ => none
 | k + 1, x0, x2, x7, x8, x9 => if x9 < (x8.length : Int) then (impl_distancesTo.l1 k x0 x2 x7 x8 x9 x0 (x0.length : Int) 0) else (some x7)
def impl_distancesTo.l1 : Nat → List (S98) → Int → List Int → List Int → Int → List (S98) → Int → Int → Option (List Int)
 | 0, _, _, _, _, _, _, _, _ => none
 | k + 1, x0, x2, x7, x8, x9, x25, x26, x27 => if x27 < x26 then (if 0 ≤ x27 then (if x27 < (x25.length : Int) then (if 0 ≤ x9 then (if x9 < (x8.length : Int) then (if ((rd_T98 x25 x27).f1) = (rd x8 x9) then (if ((rd_T98 x25 x27).f0) ≥ x2 then (if 0 ≤ ((rd_T98 x25 x27).f0) then (if ((rd_T98 x25 x27).f0) < (x7.length : Int) then (if (rd x7 ((rd_T98 x25 x27).f0)) < 0 then (if 0 ≤ (rd x8 x9) then (if (rd x8 x9) < (x7.length : Int) then (if x8.length < 17592186044416 then (impl_distancesTo.l1 k x0 x2 (x7.set (((rd_T98 x25 x27).f0) : Int).toNat (wrap64 ((rd x7 (rd x8 x9)) + 1))) (x8 ++ [(rd_T98 x25 x27).f0]) x9 x25 x26 (wrap64 (x27 + 1))) else (none)) else (none)) else (none)) else (impl_distancesTo.l1 k x0 x2 x7 x8 x9 x25 x26 (wrap64 (x27 + 1)))) else (none)) else (none)) else (impl_distancesTo.l1 k x0 x2 x7 x8 x9 x25 x26 (wrap64 (x27 + 1)))) else (impl_distancesTo.l1 k x0 x2 x7 x8 x9 x25 x26 (wrap64 (x27 + 1)))) else (none)) else (none)) else (none)) else (none)) else (impl_distancesTo.l0 k x0 x2 x7 x8 (wrap64 (x9 + 1)))
end
def impl_distancesTo.f (k : Nat) (l0 : List (S98)) (a1 : Int) (a2 : Int) : Option (List Int) := (slices_Repeat_int_int.f (([(-1)] : List Int)) 128).bind fun t390 => (if 0 ≤ a1 then (if a1 < (t390.length : Int) then (impl_distancesTo.l0 k l0 a2 (t390.set (a1 : Int).toNat 0) (([a1] : List Int)) 0) else (none)) else (none))
theorem impl_distancesTo.mono_l : ∀ k, (∀ y0 y1 y2 y3 y4, LeO (impl_distancesTo.l0 k y0 y1 y2 y3 y4) (impl_distancesTo.l0 (k + 1) y0 y1 y2 y3 y4)) ∧ (∀ y0 y1 y2 y3 y4 y5 y6 y7, LeO (impl_distancesTo.l1 k y0 y1 y2 y3 y4 y5 y6 y7) (impl_distancesTo.l1 (k + 1) y0 y1 y2 y3 y4 y5 y6 y7))
 | 0 => ⟨fun _ _ _ _ _ r h => by simp [impl_distancesTo.l0] at h, fun _ _ _ _ _ _ _ _ r h => by simp [impl_distancesTo.l1] at h⟩
 | k + 1 => by
  obtain ⟨ih0, ih1⟩ := impl_distancesTo.mono_l k
  refine ⟨?_, ?_⟩
  ·intro y0 y1 y2 y3 y4
   unfold impl_distancesTo.l0
   repeat' (with_reducible first | exact ih0 .. | exact ih1 .. | exact LeO.refl .. | exact LeO.none .. | refine LeO.ite ?_ ?_ | refine LeO.bind ?_ (fun _ => ?_))
  ·intro y0 y1 y2 y3 y4 y5 y6 y7
   unfold impl_distancesTo.l1
   repeat' (with_reducible first | exact ih0 .. | exact ih1 .. | exact LeO.refl .. | exact LeO.none .. | refine LeO.ite ?_ ?_ | refine LeO.bind ?_ (fun _ => ?_))
theorem impl_distancesTo.mono : ∀ a0 a1 a2 k, LeO (impl_distancesTo.f k a0 a1 a2) (impl_distancesTo.f (k + 1) a0 a1 a2) := by
 intro a0 a1 a2 k
 obtain ⟨ih0, ih1⟩ := impl_distancesTo.mono_l k
 unfold impl_distancesTo.f
 repeat' (with_reducible first | exact ih0 .. | exact ih1 .. | exact LeO.refl .. | exact LeO.none .. | refine LeO.ite ?_ ?_ | refine LeO.bind ?_ (fun _ => ?_))
def impl_distancesTo.T10 : Bool × List (List Nat × List Nat) := (true, [([], []), ([0], [0]), ([], []), ([], []), ([2, 3], [2, 3]), ([4], [4]), ([1, 5], [1, 5]), ([6], [6]), ([7], [7]), ([8, 7], [7, 8]), ([7], [7]), ([9, 10, 7], [7, 9, 10]), ([7, 11], [7, 11]), ([12, 7], [12]), ([13], [13]), ([13], [13]), ([15, 13], [13, 15]), ([14, 16, 13], [13, 14, 16]), ([17, 13], [13, 17]), ([18, 13], [13, 18]), ([13, 19], [13, 19])])
def impl_distancesTo.B10 : List Nat := [0, 1, 0, 0, 12, 28, 63, 127, 255, 511, 255, 2047, 4095, 8191, 16383, 16383, 49151, 131071, 262143, 524287, 1048575]
theorem impl_distancesTo.tab10 : rtab .any (opsOf Tryz.f119 10) = impl_distancesTo.T10 := by kernel_rfl
theorem impl_distancesTo.bits10 : waitsOk impl_distancesTo.T10.2 impl_distancesTo.B10 = true := by kernel_rfl
def impl_distancesTo.T11 : Bool × List (List Nat × List Nat) := (true, [([], []), ([], []), ([1], [1]), ([], []), ([], []), ([], []), ([4, 5], [4, 5]), ([6], [6]), ([3, 7], [3, 7]), ([8], [8]), ([9], [9]), ([0, 2, 0, 1, 2, 3, 4, 5, 6, 7, 8, 9, 10], [0, 2]), ([11, 10, 0, 1, 2, 3, 4, 5, 6, 7, 8, 9, 10], [10, 11])])
def impl_distancesTo.B11 : List Nat := [0, 0, 2, 0, 0, 0, 48, 112, 248, 504, 1016, 2047, 4095]
theorem impl_distancesTo.tab11 : rtab .any (opsOf Tryz.f119 11) = impl_distancesTo.T11 := by kernel_rfl
theorem impl_distancesTo.bits11 : waitsOk impl_distancesTo.T11.2 impl_distancesTo.B11 = true := by kernel_rfl
theorem impl_distancesTo.calls (k : Nat) (A0 : Option Addr) (c0 : Nat) (l0 : List (S98)) (a1 : Int) (a2 : Int) (r : List Int) (w : World) (hr0 : Kd.C k98 w A0 l0.length l0) (hc0 : l0.length ≤ c0) (h : impl_distancesTo.f k l0 a1 a2 = some r) :
  Calls Tryz.prog 119 #[.slice A0 l0.length c0, .int .i64 a1, .int .i64 a2] w fun e w' => ∃ v0_ : Value, e = .returned (v0_) ∧ Kd.R (Kd.int .i64) 3 w' w.heap.size (fun _ => True) v0_ r ∧ Below w.heap.size w w' := by
 have hu98 := Tryz.underlying98
 have HR0 := Aside0.mk hr0
 have HC0 := Aside0.mk hc0
 clear hr0 hc0
 have HB := Aside0.mk (Below.refl w.heap.size w)
 have H : ((slices_Repeat_int_int.f (([(-1)] : List Int)) 128).bind fun t390 => (if 0 ≤ a1 then (if a1 < (t390.length : Int) then (impl_distancesTo.l0 k l0 a2 (t390.set (a1 : Int).toNat 0) (([a1] : List Int)) 0) else (none)) else (none))) = some r := h
 clear h
 obtain ⟨y387, hy387⟩ : ∃ y_ : List Int, y_ = (([(-1)] : List Int)) := ⟨_, rfl⟩
 replace H : ((slices_Repeat_int_int.f y387 128).bind fun t390 => (if 0 ≤ a1 then (if a1 < (t390.length : Int) then (impl_distancesTo.l0 k l0 a2 (t390.set (a1 : Int).toNat 0) (([a1] : List Int)) 0) else (none)) else (none))) = some r := by first | (rw [hy387]; with_reducible exact H) | (have H2_ := (Option.bind_some _ _).symm.trans H; rw [hy387]; with_reducible exact H2_) | (have H2_ := (Option.bind_some _ _).symm.trans H; with_reducible exact H2_) | with_reducible exact H | (rw [hy387]; exact H) | exact H
 have Ny387 := Aside0.mk hy387
 clear hy387
 obtain ⟨t390, A4, H⟩ := bi_ H
 by_cases c5 : 0 ≤ a1
 ·rw [if_pos c5] at H
  have c5b0 : decide (0 ≤ a1) = true := decide_eq_true c5
  clear c5
  by_cases c6 : a1 < (t390.length : Int)
  rotate_left
  ·rw [if_neg c6] at H
   exact absurd H (by simp)
  rw [if_pos c6] at H
  have c6b0 : decide (a1 < (t390.length : Int)) = true := decide_eq_true c6
  clear c6
  obtain ⟨y393, hy393⟩ : ∃ y_ : List Int, y_ = (t390.set (a1 : Int).toNat 0) := ⟨_, rfl⟩
  replace H : (impl_distancesTo.l0 k l0 a2 y393 (([a1] : List Int)) 0) = some r := by first | (rw [hy393]; with_reducible exact H) | (have H2_ := (Option.bind_some _ _).symm.trans H; rw [hy393]; with_reducible exact H2_) | (have H2_ := (Option.bind_some _ _).symm.trans H; with_reducible exact H2_) | with_reducible exact H | (rw [hy393]; exact H) | exact H
  have Ny393 := Aside0.mk hy393
  clear hy393
  obtain ⟨y394, hy394⟩ : ∃ y_ : List Int, y_ = (([a1] : List Int)) := ⟨_, rfl⟩
  replace H : (impl_distancesTo.l0 k l0 a2 y393 y394 0) = some r := by first | (rw [hy394]; with_reducible exact H) | (have H2_ := (Option.bind_some _ _).symm.trans H; rw [hy394]; with_reducible exact H2_) | (have H2_ := (Option.bind_some _ _).symm.trans H; with_reducible exact H2_) | with_reducible exact H | (rw [hy394]; exact H) | exact H
  have Ny394 := Aside0.mk hy394
  clear hy394
  have H' := Aside0.mk H
  clear H
  go_enter Tryz.func119, Tryz.ntmps119
  go_wp2_with (first | ((with_reducible refine gate_dst (N := 12) rfl ?_); refine Kd.R_lit (Kd.int .i64) _ 3 ?hg (N := 12) ?hd (xs := ([(-1)] : List Int)) (inner := [.int .i64 (-1)]) (ok := fun _ => True) (okp := fun _ => True) ?hr ?hp (fun _ hk => hk) trivial (Below.refl _ _) (Nat.le_refl _) (by simp) ?_; (case hd => rfl); (case hg => rfl); (case hr => first | (go_simp; done) | (go_simp; rfl)); (case hp => exact (Reps.one (show Kd.M (Kd.int .i64) _ _ _ (-1) [.int .i64 (-1)] from rfl) (Reps.none _ _))); intro v388 w8 ho9 hb hg_ hnew_; clear hg_ hnew_; (first | rw [← Ny387.out] at ho9 | (simp only [Int.reduceToNat] at ho9; rw [← Ny387.out] at ho9)); have HO389 := Aside0.mk (Kd.R_lower ho9 (bz_ HB.out)); replace HB := hs_ HB hb; clear hb ho9; obtain ⟨Ao10, co10, eo10⟩ := Kd.R_slice HO389.out; subst eo10) | ((with_reducible refine gate_callee (f := 93) rfl ?_); refine gm_ (some 13) Tryz.func93 #[.slice Ao10 y387.length co10, .int .i64 128] rfl ?_; (with_reducible refine (slices_Repeat_int_int.calls _ _ y387 128 t390 _ ?side1 ?side2 A4.out).mono ?_); (case side1 => exact rr_ HO389); (case side2 => exact (Kd.R_reads' HO389.out).2.1); rintro e w11 ⟨v391, rfl, ho0, hb⟩; refine ⟨_, rfl, ?_⟩; have HO392 := Aside0.mk (Kd.R_lower (Kd.R_new' ho0 (rl_ HO389.out)) (bz_ HB.out)); replace HO389 := re_ HO389 ho0 hb; replace HB := hs_ HB hb; (try clear hb); (try clear ho0); have p7 : 0 ≤ (a1 : Int) := of_decide_eq_true dg_; have q7 : (a1 : Int) < ((t390.length : Int) : Int) := of_decide_eq_true dg_; obtain ⟨go7, co7, eo7, gb7, gl7, cl7, HG7⟩ := Kd.R_form HO392.out (by omega); (first | cases eo7 | (injection eo7 with ea_ en_ ec_; (first | subst ea_ | (injection ea_ with ea_; subst ea_)); subst ec_; clear en_)); have GB7 := Aside0.mk gb7; have GG7 := Aside0.mk HG7; clear gb7 gl7 HG7; obtain ⟨hx7_0, hf7_0⟩ := Kd.R_celln 0 HO392.out (a1 : Int) p7 q7; replace p7 := eq_true p7; replace q7 := eq_true q7; have n_ := Aside0.mk (Kd.R_mono (ok' := (fun k_ => some k_ ≠ (.slice Ao10 y387.length co10 : Value).ownBlock)) HO392.out (fun k_ hk => hk.2)); clear HO392; have HO392 := n_; clear n_; obtain ⟨hy12_, hz12_⟩ := Kd.R_celln 0 HO392.out (a1 : Int) (of_decide_eq_true dg_) (of_decide_eq_true dg_); have HP12 := Kd.R_putg HO392.out (a1 : Int) 0) | ((with_reducible refine gate_store (t := 3) (p := 16) rfl ?_); refine store_event (t := 3) (p := 16) (v := ?vo_w13) (w1 := (w11.setCell ⟨go7, (a1 : Int).toNat, none⟩ (.int .i64 0))) ?hg ?ho ?hn ?hr ?_; (case ho => rfl); (case hg => rfl); (case hn => rfl); (case hr => first | (go_simp; done) | (go_simp; rfl)); intro w13 hw; have hg : w11.grownBy w13 (some go7) := (by rw [hw]; exact HP12.2); have hp_ : Kd.R (Kd.int .i64) 3 w13 w.heap.size (fun k_ => some k_ ≠ (.slice Ao10 y387.length co10 : Value).ownBlock) (.slice (some ⟨go7, 0, none⟩) t390.length co7) y393 := (by rw [hw, Ny393.out]; exact HP12.1); clear HP12; replace HO389 := Aside0.mk (Kd.R_after (v := (.slice (some ⟨go7, 0, none⟩) t390.length co7)) (v1 := (.slice (some ⟨go7, 0, none⟩) t390.length co7)) (ok := (fun _ => True)) (ra_ HO389.out) hg (.inl rfl)); replace HO392 := Aside0.mk (hp_); replace HB := Aside0.mk ((by rw [hw]; exact below_set (HB.out) GB7.out : Below w.heap.size w w13)); clear hg hw hp_) | ((with_reducible refine gate_dst (N := 18) rfl ?_); refine Kd.R_lit (Kd.int .i64) _ 3 ?hg (N := 18) ?hd (xs := ([a1] : List Int)) (inner := [.int .i64 a1]) (ok := fun _ => True) (okp := fun _ => True) ?hr ?hp (fun _ hk => hk) trivial (Below.refl _ _) (Nat.le_refl _) (by simp) ?_; (case hd => rfl); (case hg => rfl); (case hr => first | (go_simp; done) | (go_simp; rfl)); (case hp => exact (Reps.one (show Kd.M (Kd.int .i64) _ _ _ a1 [.int .i64 a1] from rfl) (Reps.none _ _))); intro v395 w14 ho15 hb hg_ hnew_; clear hg_ hnew_; (first | rw [← Ny394.out] at ho15 | (simp only [Int.reduceToNat] at ho15; rw [← Ny394.out] at ho15)); have HO396 := Aside0.mk (Kd.R_lower (Kd.R_new' (Kd.R_new' ho15 (rl_ HO389.out)) (rl_ HO392.out)) (bz_ HB.out)); replace HO389 := re_ HO389 ho15 hb; replace HO392 := re_ HO392 ho15 hb; replace HB := hs_ HB hb; clear hb ho15))
  go_loopg [8, 9] k (fun kq v8 v9 w' => ∃ (x7_1 : List Int) (x8_1 : List Int) (x9_1 : Int), v9 = .int .i64 x9_1 ∧ Aside0 (impl_distancesTo.l0 kq l0 a2 x7_1 x8_1 x9_1 = some r) ∧ Aside0 (kq ≤ k) ∧ Aside0 (Kd.R (Kd.int .i64) 3 w' w.heap.size (fun k_ => some k_ ≠ (v8 : Value).ownBlock) (.slice (some ⟨go7, 0, none⟩) t390.length co7) x7_1) ∧ Aside0 (Kd.R (Kd.int .i64) 3 w' w.heap.size (fun k_ => some k_ ≠ ((.slice (some ⟨go7, 0, none⟩) t390.length co7) : Value).ownBlock) v8 x8_1) ∧ Aside0 (Below w.heap.size w w'))
  case atStart => exact ⟨(y393), (y394), (0), ef_, H', ⟨Nat.le_refl _⟩, ⟨by (with_reducible repeat (first | apply Kd.R_alloc | apply Kd.R_drewN | apply Kd.R_drew)); exact Kd.R_mono HO392.out (fun _ hk => hk.2)⟩, ⟨by (with_reducible repeat (first | apply Kd.R_alloc | apply Kd.R_drewN | apply Kd.R_drew)); exact Kd.R_mono HO396.out (fun _ hk => hk.2)⟩, ⟨bb_ HB.out⟩⟩
  clear H'
  try clear c5
  try clear c5b0
  try clear c6
  try clear c6b0
  try clear p7
  try clear q7
  try clear hx7_0
  try clear p7
  try clear q7
  obtain ⟨x7_1, x8_1, x9_1, rfl, HA, HK1, HO_7, HO_8, HB⟩ := hrel
  have hl7_1 := (Kd.R_reads' HO_7.out).1
  rw [hl7_1] at HO_7
  (try simp only [hl7_1])
  (try simp only [hl7_1] at HO_8)
  obtain _ | k1 := gk
  ·exact absurd HA.out (by simp [impl_distancesTo.l0])
  have H := HA.out
  clear HA
  simp only [impl_distancesTo.l0] at H
  by_cases c16 : x9_1 < (x8_1.length : Int)
  rotate_left
  ·rw [if_neg c16] at H
   have c16b0 : decide (x9_1 < (x8_1.length : Int)) = false := decide_eq_false c16
   clear c16
   obtain rfl := Option.some.inj H
   obtain ⟨Ao56, co56, eo56⟩ := Kd.R_slice HO_8.out
   subst eo56
   go_wp2
   go_ret
   exact ⟨_, fin_, by (with_reducible repeat (first | apply Kd.R_alloc | apply Kd.R_drewN | apply Kd.R_drew)); exact Kd.R_mono HO_7.out (fun _ hk => trivial), bb_ HB.out⟩
  rw [if_pos c16] at H
  have c16b0 : decide (x9_1 < (x8_1.length : Int)) = true := decide_eq_true c16
  clear c16
  have H' := Aside0.mk H
  clear H
  obtain ⟨Ao17, co17, eo17⟩ := Kd.R_slice HO_8.out
  subst eo17
  go_wp2
  go_loopg [8, 27] k1 (fun kq v8 v27 w' => ∃ (x7_2 : List Int) (x8_2 : List Int) (x27_2 : Int), v27 = .int .i64 x27_2 ∧ Aside0 (impl_distancesTo.l1 kq l0 a2 x7_2 x8_2 x9_1 l0 (l0.length : Int) x27_2 = some r) ∧ Aside0 (kq ≤ k1) ∧ Aside0 (Kd.R (Kd.int .i64) 3 w' w.heap.size (fun k_ => some k_ ≠ (v8 : Value).ownBlock) (.slice (some ⟨go7, 0, none⟩) x7_1.length co7) x7_2) ∧ Aside0 (Kd.R (Kd.int .i64) 3 w' w.heap.size (fun k_ => some k_ ≠ ((.slice (some ⟨go7, 0, none⟩) x7_1.length co7) : Value).ownBlock) v8 x8_2) ∧ Aside0 (Below w.heap.size w w'))
  case atStart => exact ⟨(x7_1), (x8_1), (0), ef_, H', ⟨Nat.le_refl _⟩, ⟨by (try simp only [hl7_1]); (with_reducible repeat (first | apply Kd.R_alloc | apply Kd.R_drewN | apply Kd.R_drew)); exact HO_7.out⟩, ⟨by (try simp only [hl7_1]); (with_reducible repeat (first | apply Kd.R_alloc | apply Kd.R_drewN | apply Kd.R_drew)); exact HO_8.out⟩, ⟨bb_ HB.out⟩⟩
  clear H'
  try clear c5
  try clear c5b0
  try clear c6
  try clear c6b0
  try clear p7
  try clear q7
  try clear c16
  try clear c16b0
  try clear hx7_0
  try clear p7
  try clear q7
  obtain ⟨x7_2, x8_2, x27_2, rfl, HA, HK2, HO_7, HO_8, HB⟩ := hrel
  have hl7_2 := (Kd.R_reads' HO_7.out).1
  rw [hl7_2] at HO_7
  (try simp only [hl7_2])
  (try simp only [hl7_2] at HO_8)
  obtain _ | k2 := gk
  ·exact absurd HA.out (by simp [impl_distancesTo.l1])
  have H := HA.out
  clear HA
  simp only [impl_distancesTo.l1] at H
  by_cases c18 : x27_2 < (l0.length : Int)
  rotate_left
  ·rw [if_neg c18] at H
   have c18b0 : decide (x27_2 < (l0.length : Int)) = false := decide_eq_false c18
   clear c18
   have H' := Aside0.mk H
   clear H
   go_wp2
   (try simp only [← hl7_1, ← hl7_2])
   go_roundg k2
   case measure => have := HK1.out; have := HK2.out; omega
   case rel => exact ⟨(x7_2), (x8_2), (wrap64 (x9_1 + 1)), ef_, H', ⟨by have := HK1.out; have := HK2.out; omega⟩, ⟨by (try simp only [hl7_1]); (try simp only [hl7_2]); (with_reducible repeat (first | apply Kd.R_alloc | apply Kd.R_drewN | apply Kd.R_drew)); exact HO_7.out⟩, ⟨by (try simp only [hl7_1]); (try simp only [hl7_2]); (with_reducible repeat (first | apply Kd.R_alloc | apply Kd.R_drewN | apply Kd.R_drew)); exact HO_8.out⟩, ⟨bb_ HB.out⟩⟩
  rw [if_pos c18] at H
  have c18b0 : decide (x27_2 < (l0.length : Int)) = true := decide_eq_true c18
  clear c18
  by_cases c19 : 0 ≤ x27_2
  rotate_left
  ·rw [if_neg c19] at H
   exact absurd H (by simp)
  rw [if_pos c19] at H
  have c19b0 : decide (0 ≤ x27_2) = true := decide_eq_true c19
  clear c19
  by_cases c20 : x27_2 < (l0.length : Int)
  rotate_left
  ·rw [if_neg c20] at H
   exact absurd H (by simp)
  rw [if_pos c20] at H
  have c20b0 : decide (x27_2 < (l0.length : Int)) = true := decide_eq_true c20
  clear c20
  by_cases c21 : 0 ≤ x9_1
  rotate_left
  ·rw [if_neg c21] at H
   exact absurd H (by simp)
  rw [if_pos c21] at H
  have c21b0 : decide (0 ≤ x9_1) = true := decide_eq_true c21
  clear c21
  by_cases c22 : x9_1 < (x8_2.length : Int)
  rotate_left
  ·rw [if_neg c22] at H
   exact absurd H (by simp)
  rw [if_pos c22] at H
  have c22b0 : decide (x9_1 < (x8_2.length : Int)) = true := decide_eq_true c22
  clear c22
  by_cases c23 : ((rd_T98 l0 x27_2).f1) = (rd x8_2 x9_1)
  rotate_left
  ·rw [if_neg c23] at H
   have c23b0 : (((rd_T98 l0 x27_2).f1) == (rd x8_2 x9_1)) = false := beq_eq_false_iff_ne.mpr c23
   have c23b1 : (((rd_T98 l0 x27_2).f1) != (rd x8_2 x9_1)) = true := bne_iff_ne.mpr c23
   have H' := Aside0.mk H
   clear H
   have p397 : 0 ≤ (x27_2 : Int) := of_decide_eq_true dg_
   have q397 : x27_2 < (l0.length : Int) := of_decide_eq_true dg_
   obtain ⟨ad397, e397, hx397_0, hx397_1⟩ := at_T98 HR0.out x27_2 p397 q397
   cases e397
   replace hx397_0 := hc_ HB hx397_0
   replace hx397_1 := hc_ HB hx397_1
   replace p397 := eq_true p397
   replace q397 := eq_true q397
   try go_wp2_with (first | ((with_reducible refine gate_dst (N := 11) rfl ?_); refine box_event ?hg (N := 11) ?hd (cs := #[.int .i64 0, .int .i64 0]) (t := 98) ?hr ?_; (case hd => rfl); (case hg => rfl); (case hr => first | (go_simp; done) | (go_simp; rfl)); intro gb398 hg w51 hbox hb; replace HO_7 := rb_ HO_7 hb; replace HO_8 := rb_ HO_8 hb; have BK398 := Aside0.mk (hbox); have GW398 := gw_ hg HB; have GE398 := gw_ hg HB; replace HB := hs_ HB hb; clear hb hbox hg; obtain ⟨hcz52_0, hcz52_1, hfz52_0, hfz52_1⟩ := cz2_ BK398.out))
   have n0_ : Aside0 (Kd.R (Kd.int .i64) 3 ((w51.setCell ⟨gb398, 0, none⟩ (.int .i64 ((rd_T98 l0 x27_2).f0))).setCell ⟨gb398, 1, none⟩ (.int .i64 ((rd_T98 l0 x27_2).f1))) w.heap.size (fun k_ => some k_ ≠ (u8 : Value).ownBlock) (.slice (some ⟨go7, 0, none⟩) x7_2.length co7) x7_2) := ⟨rm_ (Kd.R_types HO_7.out BK398.out (by decide)) (fun _ hk => hk.1)⟩
   have n1_ : Aside0 (Kd.R (Kd.int .i64) 3 ((w51.setCell ⟨gb398, 0, none⟩ (.int .i64 ((rd_T98 l0 x27_2).f0))).setCell ⟨gb398, 1, none⟩ (.int .i64 ((rd_T98 l0 x27_2).f1))) w.heap.size (fun k_ => some k_ ≠ (.slice (some ⟨go7, 0, none⟩) x7_2.length co7 : Value).ownBlock) u8 x8_2) := ⟨rm_ (Kd.R_types HO_8.out BK398.out (by decide)) (fun _ hk => hk.1)⟩
   have n2_ : Aside0 (((w51.setCell ⟨gb398, 0, none⟩ (.int .i64 ((rd_T98 l0 x27_2).f0))).setCell ⟨gb398, 1, none⟩ (.int .i64 ((rd_T98 l0 x27_2).f1))).heap[gb398]? = some (.cells #[.int .i64 ((rd_T98 l0 x27_2).f0), .int .i64 ((rd_T98 l0 x27_2).f1)] 98 (0, 0))) := ⟨by (with_reducible repeat (first | refine blk_drewN ?_ _ | refine blk_drew ?_ | refine blk_alloc ?_ _)); refine blk_put (cs := #[.int .i64 ((rd_T98 l0 x27_2).f0), .int .i64 0]) ?_ 1 _ rfl; (with_reducible repeat (first | refine blk_drewN ?_ _ | refine blk_drew ?_ | refine blk_alloc ?_ _)); refine blk_put (cs := #[.int .i64 0, .int .i64 0]) ?_ 0 _ rfl; (with_reducible repeat (first | refine blk_drewN ?_ _ | refine blk_drew ?_ | refine blk_alloc ?_ _)); exact BK398.out⟩
   have n3_ : Aside0 (Below w.heap.size w ((w51.setCell ⟨gb398, 0, none⟩ (.int .i64 ((rd_T98 l0 x27_2).f0))).setCell ⟨gb398, 1, none⟩ (.int .i64 ((rd_T98 l0 x27_2).f1)))) := ⟨bb_ HB.out⟩
   (try clear HO_7)
   (try clear HO_8)
   (try clear BK398)
   (try clear HB)
   generalize ((w51.setCell ⟨gb398, 0, none⟩ (.int .i64 ((rd_T98 l0 x27_2).f0))).setCell ⟨gb398, 1, none⟩ (.int .i64 ((rd_T98 l0 x27_2).f1))) = w53 at n0_ n1_ n2_ n3_ ⊢
   have HO_7 := n0_
   have HO_8 := n1_
   have BK398 := n2_
   have HB := n3_
   clear n0_ n1_ n2_ n3_
   replace HO_7 := Aside0.mk (Kd.R_drew HO_7.out)
   replace HO_8 := Aside0.mk (Kd.R_drew HO_8.out)
   replace BK398 := Aside0.mk (blk_drew BK398.out)
   replace HB := Aside0.mk (below_drew1 HB.out)
   obtain ⟨Ao55, co55, eo55⟩ := Kd.R_slice HO_8.out
   (first | subst eo55 | (injection eo55 with f1_ f2_ f3_; have f4_ := f1_.symm; have f5_ := f3_.symm; clear f1_ f2_ f3_; subst f4_; subst f5_))
   have p399 : 0 ≤ (x9_1 : Int) := of_decide_eq_true dg_
   have q399 : x9_1 < (x8_2.length : Int) := of_decide_eq_true dg_
   obtain ⟨ad399, e399, hx399_0⟩ := Kd.at_int (Kd.R_reads' HO_8.out).2.2 x9_1 p399 q399
   cases e399
   replace p399 := eq_true p399
   replace q399 := eq_true q399
   refine start_ (n := 21) (S := fun w' => w'.cell? ⟨gb398, 0, none⟩ = some (.int .i64 ((rd_T98 l0 x27_2).f0)) ∧ w'.cell? ⟨gb398, 1, none⟩ = some (.int .i64 ((rd_T98 l0 x27_2).f1)) ∧ w'.cell? (ad399.add (x9_1).toNat) = some (.int .i64 (rd x8_2 x9_1))) (ds := []) #[false, false, false, false, false, false, false, false, false, false, false, false, false, false, false, false, false, false, false, false, false] (by kernel_rfl) rfl rfl ⟨(blk_cell BK398.out 0).trans rfl, (blk_cell BK398.out 1).trans rfl, hx399_0⟩ (fun hHeld => ?_); refine with_tabW impl_distancesTo.tab10 impl_distancesTo.bits10 (fun HT_ HW_ => ?_)
   generalize w53.drew = w54 at HO_7 HO_8 BK398 HB hx399_0 hHeld ⊢
   refine pu_ 0 31 (bt_ 21 1) HT_ ?_
   refine pu_ 2 33 (bt_ 21 5) HT_ ?_
   refine pu_ 3 34 (bt_ 21 13) HT_ ?_
   refine pu_ 4 35 (bt_ 21 29) HT_ ?_
   refine take_ (i := 1) (N := some 32) (v := ?_) (a' := ?_) (bt_ 21 31) rfl rfl (take_ofW HT_.out HW_.out (by kernel_rfl)) (fun _ _ _ h => h) (Or.inl ⟨by rfl, ?_⟩) hHeld ?_ ?_
   rotate_left
   ·rintro w' ⟨s0, s1, s2⟩
    go_simp
    with_reducible rfl
   rotate_left
   ·simp only [Act.put, List.setIfInBounds_toArray, List.set_cons_zero, List.set_cons_succ, i64_w, i32_w]
    rfl
   refine take_ (i := 5) (N := some 36) (v := ?_) (a' := ?_) (bt_ 21 63) rfl rfl (take_ofW HT_.out HW_.out (by kernel_rfl)) (fun _ _ _ h => h) (Or.inl ⟨by rfl, ?_⟩) hHeld ?_ ?_
   rotate_left
   ·rintro w' ⟨s0, s1, s2⟩
    go_simp
    with_reducible rfl
   rotate_left
   ·simp only [Act.put, List.setIfInBounds_toArray, List.set_cons_zero, List.set_cons_succ, i64_w, i32_w]
    rfl
   refine pu_ 6 37 (bt_ 21 127) HT_ ?_
   refine pu_ 7 38 (bt_ 21 255) HT_ ?_
   refine un_ 8 39 (bt_ 21 511) HT_ ?_
   refine un_ 9 40 (bt_ 21 1023) HT_ ?_
   refine un_ 10 41 (bt_ 21 2047) HT_ ?_
   refine un_ 11 42 (bt_ 21 4095) HT_ ?_
   refine pu_ 12 43 (bt_ 21 8191) HT_ ?_
   refine pu_ 13 44 (bt_ 21 16383) HT_ ?_
   refine un_ 14 45 (bt_ 21 32767) HT_ ?_
   refine un_ 15 46 (bt_ 21 65535) HT_ ?_
   refine un_ 16 47 (bt_ 21 131071) HT_ ?_
   refine un_ 17 48 (bt_ 21 262143) HT_ ?_
   refine un_ 18 49 (bt_ 21 524287) HT_ ?_
   refine un_ 19 50 (bt_ 21 1048575) HT_ ?_
   refine pu_ 20 51 (bt_ 21 2097151) HT_ ?_
   refine done_ (done_of HT_.out (by kernel_rfl)) ?_
   try go_wp2
   (try simp only [← hl7_2])
   go_roundg k2
   case measure => have := HK1.out; have := HK2.out; omega
   case rel => exact ⟨(x7_2), (x8_2), (wrap64 (x27_2 + 1)), ef_, H', ⟨by have := HK1.out; have := HK2.out; omega⟩, ⟨by (try simp only [hl7_1]); (try simp only [hl7_2]); (with_reducible repeat (first | apply Kd.R_alloc | apply Kd.R_drewN | apply Kd.R_drew)); exact HO_7.out⟩, ⟨by (try simp only [hl7_1]); (try simp only [hl7_2]); (with_reducible repeat (first | apply Kd.R_alloc | apply Kd.R_drewN | apply Kd.R_drew)); exact HO_8.out⟩, ⟨bb_ HB.out⟩⟩
  rw [if_pos c23] at H
  have c23b0 : (((rd_T98 l0 x27_2).f1) == (rd x8_2 x9_1)) = true := beq_iff_eq.mpr c23
  have c23b1 : (((rd_T98 l0 x27_2).f1) != (rd x8_2 x9_1)) = false := bne_eq_false_iff_eq.mpr c23
  clear c23
  by_cases c24 : ((rd_T98 l0 x27_2).f0) ≥ a2
  rotate_left
  ·rw [if_neg c24] at H
   have c24b0 : decide (a2 ≤ ((rd_T98 l0 x27_2).f0)) = false := decide_eq_false c24
   clear c24
   have H' := Aside0.mk H
   clear H
   have p397 : 0 ≤ (x27_2 : Int) := of_decide_eq_true dg_
   have q397 : x27_2 < (l0.length : Int) := of_decide_eq_true dg_
   obtain ⟨ad397, e397, hx397_0, hx397_1⟩ := at_T98 HR0.out x27_2 p397 q397
   cases e397
   replace hx397_0 := hc_ HB hx397_0
   replace hx397_1 := hc_ HB hx397_1
   replace p397 := eq_true p397
   replace q397 := eq_true q397
   try go_wp2_with (first | ((with_reducible refine gate_dst (N := 11) rfl ?_); refine box_event ?hg (N := 11) ?hd (cs := #[.int .i64 0, .int .i64 0]) (t := 98) ?hr ?_; (case hd => rfl); (case hg => rfl); (case hr => first | (go_simp; done) | (go_simp; rfl)); intro gb398 hg w46 hbox hb; replace HO_7 := rb_ HO_7 hb; replace HO_8 := rb_ HO_8 hb; have BK398 := Aside0.mk (hbox); have GW398 := gw_ hg HB; have GE398 := gw_ hg HB; replace HB := hs_ HB hb; clear hb hbox hg; obtain ⟨hcz47_0, hcz47_1, hfz47_0, hfz47_1⟩ := cz2_ BK398.out))
   have n0_ : Aside0 (Kd.R (Kd.int .i64) 3 ((w46.setCell ⟨gb398, 0, none⟩ (.int .i64 ((rd_T98 l0 x27_2).f0))).setCell ⟨gb398, 1, none⟩ (.int .i64 ((rd_T98 l0 x27_2).f1))) w.heap.size (fun k_ => some k_ ≠ (u8 : Value).ownBlock) (.slice (some ⟨go7, 0, none⟩) x7_2.length co7) x7_2) := ⟨rm_ (Kd.R_types HO_7.out BK398.out (by decide)) (fun _ hk => hk.1)⟩
   have n1_ : Aside0 (Kd.R (Kd.int .i64) 3 ((w46.setCell ⟨gb398, 0, none⟩ (.int .i64 ((rd_T98 l0 x27_2).f0))).setCell ⟨gb398, 1, none⟩ (.int .i64 ((rd_T98 l0 x27_2).f1))) w.heap.size (fun k_ => some k_ ≠ (.slice (some ⟨go7, 0, none⟩) x7_2.length co7 : Value).ownBlock) u8 x8_2) := ⟨rm_ (Kd.R_types HO_8.out BK398.out (by decide)) (fun _ hk => hk.1)⟩
   have n2_ : Aside0 (((w46.setCell ⟨gb398, 0, none⟩ (.int .i64 ((rd_T98 l0 x27_2).f0))).setCell ⟨gb398, 1, none⟩ (.int .i64 ((rd_T98 l0 x27_2).f1))).heap[gb398]? = some (.cells #[.int .i64 ((rd_T98 l0 x27_2).f0), .int .i64 ((rd_T98 l0 x27_2).f1)] 98 (0, 0))) := ⟨by (with_reducible repeat (first | refine blk_drewN ?_ _ | refine blk_drew ?_ | refine blk_alloc ?_ _)); refine blk_put (cs := #[.int .i64 ((rd_T98 l0 x27_2).f0), .int .i64 0]) ?_ 1 _ rfl; (with_reducible repeat (first | refine blk_drewN ?_ _ | refine blk_drew ?_ | refine blk_alloc ?_ _)); refine blk_put (cs := #[.int .i64 0, .int .i64 0]) ?_ 0 _ rfl; (with_reducible repeat (first | refine blk_drewN ?_ _ | refine blk_drew ?_ | refine blk_alloc ?_ _)); exact BK398.out⟩
   have n3_ : Aside0 (Below w.heap.size w ((w46.setCell ⟨gb398, 0, none⟩ (.int .i64 ((rd_T98 l0 x27_2).f0))).setCell ⟨gb398, 1, none⟩ (.int .i64 ((rd_T98 l0 x27_2).f1)))) := ⟨bb_ HB.out⟩
   (try clear HO_7)
   (try clear HO_8)
   (try clear BK398)
   (try clear HB)
   generalize ((w46.setCell ⟨gb398, 0, none⟩ (.int .i64 ((rd_T98 l0 x27_2).f0))).setCell ⟨gb398, 1, none⟩ (.int .i64 ((rd_T98 l0 x27_2).f1))) = w48 at n0_ n1_ n2_ n3_ ⊢
   have HO_7 := n0_
   have HO_8 := n1_
   have BK398 := n2_
   have HB := n3_
   clear n0_ n1_ n2_ n3_
   replace HO_7 := Aside0.mk (Kd.R_drew HO_7.out)
   replace HO_8 := Aside0.mk (Kd.R_drew HO_8.out)
   replace BK398 := Aside0.mk (blk_drew BK398.out)
   replace HB := Aside0.mk (below_drew1 HB.out)
   obtain ⟨Ao50, co50, eo50⟩ := Kd.R_slice HO_8.out
   (first | subst eo50 | (injection eo50 with f1_ f2_ f3_; have f4_ := f1_.symm; have f5_ := f3_.symm; clear f1_ f2_ f3_; subst f4_; subst f5_))
   have p399 : 0 ≤ (x9_1 : Int) := of_decide_eq_true dg_
   have q399 : x9_1 < (x8_2.length : Int) := of_decide_eq_true dg_
   obtain ⟨ad399, e399, hx399_0⟩ := Kd.at_int (Kd.R_reads' HO_8.out).2.2 x9_1 p399 q399
   cases e399
   replace p399 := eq_true p399
   replace q399 := eq_true q399
   refine start_ (n := 21) (S := fun w' => w'.cell? ⟨gb398, 0, none⟩ = some (.int .i64 ((rd_T98 l0 x27_2).f0)) ∧ w'.cell? ⟨gb398, 1, none⟩ = some (.int .i64 ((rd_T98 l0 x27_2).f1)) ∧ w'.cell? (ad399.add (x9_1).toNat) = some (.int .i64 (rd x8_2 x9_1))) (ds := []) #[false, false, false, false, false, false, false, false, false, false, false, false, false, false, false, false, false, false, false, false, false] (by kernel_rfl) rfl rfl ⟨(blk_cell BK398.out 0).trans rfl, (blk_cell BK398.out 1).trans rfl, hx399_0⟩ (fun hHeld => ?_); refine with_tabW impl_distancesTo.tab10 impl_distancesTo.bits10 (fun HT_ HW_ => ?_)
   generalize w48.drew = w49 at HO_7 HO_8 BK398 HB hx399_0 hHeld ⊢
   refine pu_ 0 31 (bt_ 21 1) HT_ ?_
   refine pu_ 2 33 (bt_ 21 5) HT_ ?_
   refine pu_ 3 34 (bt_ 21 13) HT_ ?_
   refine pu_ 4 35 (bt_ 21 29) HT_ ?_
   refine take_ (i := 1) (N := some 32) (v := ?_) (a' := ?_) (bt_ 21 31) rfl rfl (take_ofW HT_.out HW_.out (by kernel_rfl)) (fun _ _ _ h => h) (Or.inl ⟨by rfl, ?_⟩) hHeld ?_ ?_
   rotate_left
   ·rintro w' ⟨s0, s1, s2⟩
    go_simp
    with_reducible rfl
   rotate_left
   ·simp only [Act.put, List.setIfInBounds_toArray, List.set_cons_zero, List.set_cons_succ, i64_w, i32_w]
    rfl
   refine take_ (i := 5) (N := some 36) (v := ?_) (a' := ?_) (bt_ 21 63) rfl rfl (take_ofW HT_.out HW_.out (by kernel_rfl)) (fun _ _ _ h => h) (Or.inl ⟨by rfl, ?_⟩) hHeld ?_ ?_
   rotate_left
   ·rintro w' ⟨s0, s1, s2⟩
    go_simp
    with_reducible rfl
   rotate_left
   ·simp only [Act.put, List.setIfInBounds_toArray, List.set_cons_zero, List.set_cons_succ, i64_w, i32_w]
    rfl
   refine pu_ 6 37 (bt_ 21 127) HT_ ?_
   refine pu_ 7 38 (bt_ 21 255) HT_ ?_
   refine pu_ 8 39 (bt_ 21 511) HT_ ?_
   refine pu_ 10 41 (bt_ 21 1535) HT_ ?_
   refine take_ (i := 9) (N := some 40) (v := ?_) (a' := ?_) (bt_ 21 2047) rfl rfl (take_ofW HT_.out HW_.out (by kernel_rfl)) (fun _ _ _ h => h) (Or.inl ⟨by rfl, ?_⟩) hHeld ?_ ?_
   rotate_left
   ·rintro w' ⟨s0, s1, s2⟩
    go_simp
    with_reducible rfl
   rotate_left
   ·simp only [Act.put, List.setIfInBounds_toArray, List.set_cons_zero, List.set_cons_succ, i64_w, i32_w]
    rfl
   refine pu_ 11 42 (bt_ 21 4095) HT_ ?_
   refine pu_ 12 43 (bt_ 21 8191) HT_ ?_
   refine pu_ 13 44 (bt_ 21 16383) HT_ ?_
   refine un_ 14 45 (bt_ 21 32767) HT_ ?_
   refine un_ 15 46 (bt_ 21 65535) HT_ ?_
   refine un_ 16 47 (bt_ 21 131071) HT_ ?_
   refine un_ 17 48 (bt_ 21 262143) HT_ ?_
   refine un_ 18 49 (bt_ 21 524287) HT_ ?_
   refine un_ 19 50 (bt_ 21 1048575) HT_ ?_
   refine pu_ 20 51 (bt_ 21 2097151) HT_ ?_
   refine done_ (done_of HT_.out (by kernel_rfl)) ?_
   try go_wp2
   (try simp only [← hl7_2])
   go_roundg k2
   case measure => have := HK1.out; have := HK2.out; omega
   case rel => exact ⟨(x7_2), (x8_2), (wrap64 (x27_2 + 1)), ef_, H', ⟨by have := HK1.out; have := HK2.out; omega⟩, ⟨by (try simp only [hl7_1]); (try simp only [hl7_2]); (with_reducible repeat (first | apply Kd.R_alloc | apply Kd.R_drewN | apply Kd.R_drew)); exact HO_7.out⟩, ⟨by (try simp only [hl7_1]); (try simp only [hl7_2]); (with_reducible repeat (first | apply Kd.R_alloc | apply Kd.R_drewN | apply Kd.R_drew)); exact HO_8.out⟩, ⟨bb_ HB.out⟩⟩
  rw [if_pos c24] at H
  have c24b0 : decide (a2 ≤ ((rd_T98 l0 x27_2).f0)) = true := decide_eq_true c24
  clear c24
  by_cases c25 : 0 ≤ ((rd_T98 l0 x27_2).f0)
  rotate_left
  ·rw [if_neg c25] at H
   exact absurd H (by simp)
  rw [if_pos c25] at H
  have c25b0 : decide (0 ≤ ((rd_T98 l0 x27_2).f0)) = true := decide_eq_true c25
  clear c25
  by_cases c26 : ((rd_T98 l0 x27_2).f0) < (x7_2.length : Int)
  rotate_left
  ·rw [if_neg c26] at H
   exact absurd H (by simp)
  rw [if_pos c26] at H
  have c26b0 : decide (((rd_T98 l0 x27_2).f0) < (x7_2.length : Int)) = true := decide_eq_true c26
  clear c26
  by_cases c27 : (rd x7_2 ((rd_T98 l0 x27_2).f0)) < 0
  rotate_left
  ·rw [if_neg c27] at H
   have c27b0 : decide ((rd x7_2 ((rd_T98 l0 x27_2).f0)) < 0) = false := decide_eq_false c27
   clear c27
   have H' := Aside0.mk H
   clear H
   have p397 : 0 ≤ (x27_2 : Int) := of_decide_eq_true dg_
   have q397 : x27_2 < (l0.length : Int) := of_decide_eq_true dg_
   obtain ⟨ad397, e397, hx397_0, hx397_1⟩ := at_T98 HR0.out x27_2 p397 q397
   cases e397
   replace hx397_0 := hc_ HB hx397_0
   replace hx397_1 := hc_ HB hx397_1
   replace p397 := eq_true p397
   replace q397 := eq_true q397
   try go_wp2_with (first | ((with_reducible refine gate_dst (N := 11) rfl ?_); refine box_event ?hg (N := 11) ?hd (cs := #[.int .i64 0, .int .i64 0]) (t := 98) ?hr ?_; (case hd => rfl); (case hg => rfl); (case hr => first | (go_simp; done) | (go_simp; rfl)); intro gb398 hg w41 hbox hb; replace HO_7 := rb_ HO_7 hb; replace HO_8 := rb_ HO_8 hb; have BK398 := Aside0.mk (hbox); have GW398 := gw_ hg HB; have GE398 := gw_ hg HB; replace HB := hs_ HB hb; clear hb hbox hg; obtain ⟨hcz42_0, hcz42_1, hfz42_0, hfz42_1⟩ := cz2_ BK398.out))
   have n0_ : Aside0 (Kd.R (Kd.int .i64) 3 ((w41.setCell ⟨gb398, 0, none⟩ (.int .i64 ((rd_T98 l0 x27_2).f0))).setCell ⟨gb398, 1, none⟩ (.int .i64 ((rd_T98 l0 x27_2).f1))) w.heap.size (fun k_ => some k_ ≠ (u8 : Value).ownBlock) (.slice (some ⟨go7, 0, none⟩) x7_2.length co7) x7_2) := ⟨rm_ (Kd.R_types HO_7.out BK398.out (by decide)) (fun _ hk => hk.1)⟩
   have n1_ : Aside0 (Kd.R (Kd.int .i64) 3 ((w41.setCell ⟨gb398, 0, none⟩ (.int .i64 ((rd_T98 l0 x27_2).f0))).setCell ⟨gb398, 1, none⟩ (.int .i64 ((rd_T98 l0 x27_2).f1))) w.heap.size (fun k_ => some k_ ≠ (.slice (some ⟨go7, 0, none⟩) x7_2.length co7 : Value).ownBlock) u8 x8_2) := ⟨rm_ (Kd.R_types HO_8.out BK398.out (by decide)) (fun _ hk => hk.1)⟩
   have n2_ : Aside0 (((w41.setCell ⟨gb398, 0, none⟩ (.int .i64 ((rd_T98 l0 x27_2).f0))).setCell ⟨gb398, 1, none⟩ (.int .i64 ((rd_T98 l0 x27_2).f1))).heap[gb398]? = some (.cells #[.int .i64 ((rd_T98 l0 x27_2).f0), .int .i64 ((rd_T98 l0 x27_2).f1)] 98 (0, 0))) := ⟨by (with_reducible repeat (first | refine blk_drewN ?_ _ | refine blk_drew ?_ | refine blk_alloc ?_ _)); refine blk_put (cs := #[.int .i64 ((rd_T98 l0 x27_2).f0), .int .i64 0]) ?_ 1 _ rfl; (with_reducible repeat (first | refine blk_drewN ?_ _ | refine blk_drew ?_ | refine blk_alloc ?_ _)); refine blk_put (cs := #[.int .i64 0, .int .i64 0]) ?_ 0 _ rfl; (with_reducible repeat (first | refine blk_drewN ?_ _ | refine blk_drew ?_ | refine blk_alloc ?_ _)); exact BK398.out⟩
   have n3_ : Aside0 (Below w.heap.size w ((w41.setCell ⟨gb398, 0, none⟩ (.int .i64 ((rd_T98 l0 x27_2).f0))).setCell ⟨gb398, 1, none⟩ (.int .i64 ((rd_T98 l0 x27_2).f1)))) := ⟨bb_ HB.out⟩
   (try clear HO_7)
   (try clear HO_8)
   (try clear BK398)
   (try clear HB)
   generalize ((w41.setCell ⟨gb398, 0, none⟩ (.int .i64 ((rd_T98 l0 x27_2).f0))).setCell ⟨gb398, 1, none⟩ (.int .i64 ((rd_T98 l0 x27_2).f1))) = w43 at n0_ n1_ n2_ n3_ ⊢
   have HO_7 := n0_
   have HO_8 := n1_
   have BK398 := n2_
   have HB := n3_
   clear n0_ n1_ n2_ n3_
   replace HO_7 := Aside0.mk (Kd.R_drew HO_7.out)
   replace HO_8 := Aside0.mk (Kd.R_drew HO_8.out)
   replace BK398 := Aside0.mk (blk_drew BK398.out)
   replace HB := Aside0.mk (below_drew1 HB.out)
   obtain ⟨Ao45, co45, eo45⟩ := Kd.R_slice HO_8.out
   (first | subst eo45 | (injection eo45 with f1_ f2_ f3_; have f4_ := f1_.symm; have f5_ := f3_.symm; clear f1_ f2_ f3_; subst f4_; subst f5_))
   have p399 : 0 ≤ (x9_1 : Int) := of_decide_eq_true dg_
   have q399 : x9_1 < (x8_2.length : Int) := of_decide_eq_true dg_
   obtain ⟨ad399, e399, hx399_0⟩ := Kd.at_int (Kd.R_reads' HO_8.out).2.2 x9_1 p399 q399
   cases e399
   replace p399 := eq_true p399
   replace q399 := eq_true q399
   have p400 : 0 ≤ (((rd_T98 l0 x27_2).f0) : Int) := of_decide_eq_true dg_
   have q400 : ((rd_T98 l0 x27_2).f0) < (x7_2.length : Int) := of_decide_eq_true dg_
   obtain ⟨ad400, e400, hx400_0⟩ := Kd.at_int (Kd.R_reads' HO_7.out).2.2 ((rd_T98 l0 x27_2).f0) p400 q400
   obtain rfl : (⟨go7, 0, none⟩ : Addr) = ad400 := (by injection e400)
   (first | simp only [add_plain] at hx400_0 | simp only [add_at] at hx400_0 | simp only [Addr.add, Nat.zero_add] at hx400_0 | skip)
   replace p400 := eq_true p400
   replace q400 := eq_true q400
   refine start_ (n := 21) (S := fun w' => w'.cell? ⟨gb398, 0, none⟩ = some (.int .i64 ((rd_T98 l0 x27_2).f0)) ∧ w'.cell? ⟨gb398, 1, none⟩ = some (.int .i64 ((rd_T98 l0 x27_2).f1)) ∧ w'.cell? (ad399.add (x9_1).toNat) = some (.int .i64 (rd x8_2 x9_1)) ∧ w'.cell? ⟨go7, (((rd_T98 l0 x27_2).f0)).toNat, none⟩ = some (.int .i64 (rd x7_2 ((rd_T98 l0 x27_2).f0)))) (ds := []) #[false, false, false, false, false, false, false, false, false, false, false, false, false, false, false, false, false, false, false, false, false] (by kernel_rfl) rfl rfl ⟨(blk_cell BK398.out 0).trans rfl, (blk_cell BK398.out 1).trans rfl, hx399_0, hx400_0⟩ (fun hHeld => ?_); refine with_tabW impl_distancesTo.tab10 impl_distancesTo.bits10 (fun HT_ HW_ => ?_)
   generalize w43.drew = w44 at HO_7 HO_8 BK398 HB hx399_0 hx400_0 hHeld ⊢
   refine pu_ 0 31 (bt_ 21 1) HT_ ?_
   refine pu_ 2 33 (bt_ 21 5) HT_ ?_
   refine pu_ 3 34 (bt_ 21 13) HT_ ?_
   refine pu_ 4 35 (bt_ 21 29) HT_ ?_
   refine take_ (i := 1) (N := some 32) (v := ?_) (a' := ?_) (bt_ 21 31) rfl rfl (take_ofW HT_.out HW_.out (by kernel_rfl)) (fun _ _ _ h => h) (Or.inl ⟨by rfl, ?_⟩) hHeld ?_ ?_
   rotate_left
   ·rintro w' ⟨s0, s1, s2, s3⟩
    go_simp
    with_reducible rfl
   rotate_left
   ·simp only [Act.put, List.setIfInBounds_toArray, List.set_cons_zero, List.set_cons_succ, i64_w, i32_w]
    rfl
   refine take_ (i := 5) (N := some 36) (v := ?_) (a' := ?_) (bt_ 21 63) rfl rfl (take_ofW HT_.out HW_.out (by kernel_rfl)) (fun _ _ _ h => h) (Or.inl ⟨by rfl, ?_⟩) hHeld ?_ ?_
   rotate_left
   ·rintro w' ⟨s0, s1, s2, s3⟩
    go_simp
    with_reducible rfl
   rotate_left
   ·simp only [Act.put, List.setIfInBounds_toArray, List.set_cons_zero, List.set_cons_succ, i64_w, i32_w]
    rfl
   refine pu_ 6 37 (bt_ 21 127) HT_ ?_
   refine pu_ 7 38 (bt_ 21 255) HT_ ?_
   refine pu_ 8 39 (bt_ 21 511) HT_ ?_
   refine pu_ 10 41 (bt_ 21 1535) HT_ ?_
   refine take_ (i := 9) (N := some 40) (v := ?_) (a' := ?_) (bt_ 21 2047) rfl rfl (take_ofW HT_.out HW_.out (by kernel_rfl)) (fun _ _ _ h => h) (Or.inl ⟨by rfl, ?_⟩) hHeld ?_ ?_
   rotate_left
   ·rintro w' ⟨s0, s1, s2, s3⟩
    go_simp
    with_reducible rfl
   rotate_left
   ·simp only [Act.put, List.setIfInBounds_toArray, List.set_cons_zero, List.set_cons_succ, i64_w, i32_w]
    rfl
   refine pu_ 11 42 (bt_ 21 4095) HT_ ?_
   refine pu_ 12 43 (bt_ 21 8191) HT_ ?_
   refine pu_ 13 44 (bt_ 21 16383) HT_ ?_
   refine pu_ 14 45 (bt_ 21 32767) HT_ ?_
   refine pu_ 15 46 (bt_ 21 65535) HT_ ?_
   refine take_ (i := 16) (N := some 47) (v := ?_) (a' := ?_) (bt_ 21 131071) rfl rfl (take_ofW HT_.out HW_.out (by kernel_rfl)) (fun _ _ _ h => h) (Or.inl ⟨by rfl, ?_⟩) hHeld ?_ ?_
   rotate_left
   ·rintro w' ⟨s0, s1, s2, s3⟩
    go_simp
    with_reducible rfl
   rotate_left
   ·simp only [Act.put, List.setIfInBounds_toArray, List.set_cons_zero, List.set_cons_succ, i64_w, i32_w]
    rfl
   refine pu_ 17 48 (bt_ 21 262143) HT_ ?_
   refine take_ (i := 18) (N := some 49) (v := ?_) (a' := ?_) (bt_ 21 524287) rfl rfl (take_ofW HT_.out HW_.out (by kernel_rfl)) (fun _ _ _ h => h) (Or.inl ⟨by rfl, ?_⟩) hHeld ?_ ?_
   rotate_left
   ·rintro w' ⟨s0, s1, s2, s3⟩
    go_simp
    with_reducible rfl
   rotate_left
   ·simp only [Act.put, List.setIfInBounds_toArray, List.set_cons_zero, List.set_cons_succ, i64_w, i32_w]
    rfl
   refine pu_ 19 50 (bt_ 21 1048575) HT_ ?_
   refine pu_ 20 51 (bt_ 21 2097151) HT_ ?_
   refine done_ (done_of HT_.out (by kernel_rfl)) ?_
   try go_wp2
   (try simp only [← hl7_2])
   go_roundg k2
   case measure => have := HK1.out; have := HK2.out; omega
   case rel => exact ⟨(x7_2), (x8_2), (wrap64 (x27_2 + 1)), ef_, H', ⟨by have := HK1.out; have := HK2.out; omega⟩, ⟨by (try simp only [hl7_1]); (try simp only [hl7_2]); (with_reducible repeat (first | apply Kd.R_alloc | apply Kd.R_drewN | apply Kd.R_drew)); exact HO_7.out⟩, ⟨by (try simp only [hl7_1]); (try simp only [hl7_2]); (with_reducible repeat (first | apply Kd.R_alloc | apply Kd.R_drewN | apply Kd.R_drew)); exact HO_8.out⟩, ⟨bb_ HB.out⟩⟩
  rw [if_pos c27] at H
  have c27b0 : decide ((rd x7_2 ((rd_T98 l0 x27_2).f0)) < 0) = true := decide_eq_true c27
  clear c27
  by_cases c28 : 0 ≤ (rd x8_2 x9_1)
  rotate_left
  ·rw [if_neg c28] at H
   exact absurd H (by simp)
  rw [if_pos c28] at H
  have c28b0 : decide (0 ≤ (rd x8_2 x9_1)) = true := decide_eq_true c28
  clear c28
  by_cases c29 : (rd x8_2 x9_1) < (x7_2.length : Int)
  rotate_left
  ·rw [if_neg c29] at H
   exact absurd H (by simp)
  rw [if_pos c29] at H
  have c29b0 : decide ((rd x8_2 x9_1) < (x7_2.length : Int)) = true := decide_eq_true c29
  clear c29
  obtain ⟨y403, hy403⟩ : ∃ y_ : List Int, y_ = (x7_2.set (((rd_T98 l0 x27_2).f0) : Int).toNat (wrap64 ((rd x7_2 (rd x8_2 x9_1)) + 1))) := ⟨_, rfl⟩
  replace H : (if x8_2.length < 17592186044416 then (impl_distancesTo.l1 k2 l0 a2 y403 (x8_2 ++ [(rd_T98 l0 x27_2).f0]) x9_1 l0 (l0.length : Int) (wrap64 (x27_2 + 1))) else (none)) = some r := by first | (rw [hy403]; with_reducible exact H) | (have H2_ := (Option.bind_some _ _).symm.trans H; rw [hy403]; with_reducible exact H2_) | (have H2_ := (Option.bind_some _ _).symm.trans H; with_reducible exact H2_) | with_reducible exact H | (rw [hy403]; exact H) | exact H
  have Ny403 := Aside0.mk hy403
  clear hy403
  by_cases c31 : x8_2.length < 17592186044416
  rotate_left
  ·rw [if_neg c31] at H
   exact absurd H (by simp)
  rw [if_pos c31] at H
  have LMc31 := Aside0.mk c31
  clear c31
  obtain ⟨y404, hy404⟩ : ∃ y_ : List Int, y_ = (x8_2 ++ [(rd_T98 l0 x27_2).f0]) := ⟨_, rfl⟩
  replace H : (impl_distancesTo.l1 k2 l0 a2 y403 y404 x9_1 l0 (l0.length : Int) (wrap64 (x27_2 + 1))) = some r := by first | (rw [hy404]; with_reducible exact H) | (have H2_ := (Option.bind_some _ _).symm.trans H; rw [hy404]; with_reducible exact H2_) | (have H2_ := (Option.bind_some _ _).symm.trans H; with_reducible exact H2_) | with_reducible exact H | (rw [hy404]; exact H) | exact H
  have Ny404 := Aside0.mk hy404
  clear hy404
  have H' := Aside0.mk H
  clear H
  have p397 : 0 ≤ (x27_2 : Int) := of_decide_eq_true dg_
  have q397 : x27_2 < (l0.length : Int) := of_decide_eq_true dg_
  obtain ⟨ad397, e397, hx397_0, hx397_1⟩ := at_T98 HR0.out x27_2 p397 q397
  cases e397
  replace hx397_0 := hc_ HB hx397_0
  replace hx397_1 := hc_ HB hx397_1
  replace p397 := eq_true p397
  replace q397 := eq_true q397
  try go_wp2_with (first | ((with_reducible refine gate_dst (N := 11) rfl ?_); refine box_event ?hg (N := 11) ?hd (cs := #[.int .i64 0, .int .i64 0]) (t := 98) ?hr ?_; (case hd => rfl); (case hg => rfl); (case hr => first | (go_simp; done) | (go_simp; rfl)); intro gb398 hg w32 hbox hb; replace HO_7 := rb_ HO_7 hb; replace HO_8 := rb_ HO_8 hb; have BK398 := Aside0.mk (hbox); have GW398 := gw_ hg HB; have GE398 := gw_ hg HB; replace HB := hs_ HB hb; clear hb hbox hg; obtain ⟨hcz33_0, hcz33_1, hfz33_0, hfz33_1⟩ := cz2_ BK398.out))
  have n0_ : Aside0 (Kd.R (Kd.int .i64) 3 ((w32.setCell ⟨gb398, 0, none⟩ (.int .i64 ((rd_T98 l0 x27_2).f0))).setCell ⟨gb398, 1, none⟩ (.int .i64 ((rd_T98 l0 x27_2).f1))) w.heap.size (fun k_ => some k_ ≠ (u8 : Value).ownBlock) (.slice (some ⟨go7, 0, none⟩) x7_2.length co7) x7_2) := ⟨rm_ (Kd.R_types HO_7.out BK398.out (by decide)) (fun _ hk => hk.1)⟩
  have n1_ : Aside0 (Kd.R (Kd.int .i64) 3 ((w32.setCell ⟨gb398, 0, none⟩ (.int .i64 ((rd_T98 l0 x27_2).f0))).setCell ⟨gb398, 1, none⟩ (.int .i64 ((rd_T98 l0 x27_2).f1))) w.heap.size (fun k_ => some k_ ≠ (.slice (some ⟨go7, 0, none⟩) x7_2.length co7 : Value).ownBlock) u8 x8_2) := ⟨rm_ (Kd.R_types HO_8.out BK398.out (by decide)) (fun _ hk => hk.1)⟩
  have n2_ : Aside0 (((w32.setCell ⟨gb398, 0, none⟩ (.int .i64 ((rd_T98 l0 x27_2).f0))).setCell ⟨gb398, 1, none⟩ (.int .i64 ((rd_T98 l0 x27_2).f1))).heap[gb398]? = some (.cells #[.int .i64 ((rd_T98 l0 x27_2).f0), .int .i64 ((rd_T98 l0 x27_2).f1)] 98 (0, 0))) := ⟨by (with_reducible repeat (first | refine blk_drewN ?_ _ | refine blk_drew ?_ | refine blk_alloc ?_ _)); refine blk_put (cs := #[.int .i64 ((rd_T98 l0 x27_2).f0), .int .i64 0]) ?_ 1 _ rfl; (with_reducible repeat (first | refine blk_drewN ?_ _ | refine blk_drew ?_ | refine blk_alloc ?_ _)); refine blk_put (cs := #[.int .i64 0, .int .i64 0]) ?_ 0 _ rfl; (with_reducible repeat (first | refine blk_drewN ?_ _ | refine blk_drew ?_ | refine blk_alloc ?_ _)); exact BK398.out⟩
  have n3_ : Aside0 (Below w.heap.size w ((w32.setCell ⟨gb398, 0, none⟩ (.int .i64 ((rd_T98 l0 x27_2).f0))).setCell ⟨gb398, 1, none⟩ (.int .i64 ((rd_T98 l0 x27_2).f1)))) := ⟨bb_ HB.out⟩
  (try clear HO_7)
  (try clear HO_8)
  (try clear BK398)
  (try clear HB)
  generalize ((w32.setCell ⟨gb398, 0, none⟩ (.int .i64 ((rd_T98 l0 x27_2).f0))).setCell ⟨gb398, 1, none⟩ (.int .i64 ((rd_T98 l0 x27_2).f1))) = w34 at n0_ n1_ n2_ n3_ ⊢
  have HO_7 := n0_
  have HO_8 := n1_
  have BK398 := n2_
  have HB := n3_
  clear n0_ n1_ n2_ n3_
  replace HO_7 := Aside0.mk (Kd.R_drew HO_7.out)
  replace HO_8 := Aside0.mk (Kd.R_drew HO_8.out)
  replace BK398 := Aside0.mk (blk_drew BK398.out)
  replace HB := Aside0.mk (below_drew1 HB.out)
  obtain ⟨Ao36, co36, eo36⟩ := Kd.R_slice HO_8.out
  (first | subst eo36 | (injection eo36 with f1_ f2_ f3_; have f4_ := f1_.symm; have f5_ := f3_.symm; clear f1_ f2_ f3_; subst f4_; subst f5_))
  have p399 : 0 ≤ (x9_1 : Int) := of_decide_eq_true dg_
  have q399 : x9_1 < (x8_2.length : Int) := of_decide_eq_true dg_
  obtain ⟨ad399, e399, hx399_0⟩ := Kd.at_int (Kd.R_reads' HO_8.out).2.2 x9_1 p399 q399
  cases e399
  replace p399 := eq_true p399
  replace q399 := eq_true q399
  have p400 : 0 ≤ (((rd_T98 l0 x27_2).f0) : Int) := of_decide_eq_true dg_
  have q400 : ((rd_T98 l0 x27_2).f0) < (x7_2.length : Int) := of_decide_eq_true dg_
  obtain ⟨ad400, e400, hx400_0⟩ := Kd.at_int (Kd.R_reads' HO_7.out).2.2 ((rd_T98 l0 x27_2).f0) p400 q400
  obtain rfl : (⟨go7, 0, none⟩ : Addr) = ad400 := (by injection e400)
  (first | simp only [add_plain] at hx400_0 | simp only [add_at] at hx400_0 | simp only [Addr.add, Nat.zero_add] at hx400_0 | skip)
  replace p400 := eq_true p400
  replace q400 := eq_true q400
  refine start_ (n := 21) (S := fun w' => w'.cell? ⟨gb398, 0, none⟩ = some (.int .i64 ((rd_T98 l0 x27_2).f0)) ∧ w'.cell? ⟨gb398, 1, none⟩ = some (.int .i64 ((rd_T98 l0 x27_2).f1)) ∧ w'.cell? (ad399.add (x9_1).toNat) = some (.int .i64 (rd x8_2 x9_1)) ∧ w'.cell? ⟨go7, (((rd_T98 l0 x27_2).f0)).toNat, none⟩ = some (.int .i64 (rd x7_2 ((rd_T98 l0 x27_2).f0)))) (ds := []) #[false, false, false, false, false, false, false, false, false, false, false, false, false, false, false, false, false, false, false, false, false] (by kernel_rfl) rfl rfl ⟨(blk_cell BK398.out 0).trans rfl, (blk_cell BK398.out 1).trans rfl, hx399_0, hx400_0⟩ (fun hHeld => ?_); refine with_tabW impl_distancesTo.tab10 impl_distancesTo.bits10 (fun HT_ HW_ => ?_)
  generalize w34.drew = w35 at HO_7 HO_8 BK398 HB hx399_0 hx400_0 hHeld ⊢
  refine pu_ 0 31 (bt_ 21 1) HT_ ?_
  refine pu_ 2 33 (bt_ 21 5) HT_ ?_
  refine pu_ 3 34 (bt_ 21 13) HT_ ?_
  refine pu_ 4 35 (bt_ 21 29) HT_ ?_
  refine take_ (i := 1) (N := some 32) (v := ?_) (a' := ?_) (bt_ 21 31) rfl rfl (take_ofW HT_.out HW_.out (by kernel_rfl)) (fun _ _ _ h => h) (Or.inl ⟨by rfl, ?_⟩) hHeld ?_ ?_
  rotate_left
  ·rintro w' ⟨s0, s1, s2, s3⟩
   go_simp
   with_reducible rfl
  rotate_left
  ·simp only [Act.put, List.setIfInBounds_toArray, List.set_cons_zero, List.set_cons_succ, i64_w, i32_w]
   rfl
  refine take_ (i := 5) (N := some 36) (v := ?_) (a' := ?_) (bt_ 21 63) rfl rfl (take_ofW HT_.out HW_.out (by kernel_rfl)) (fun _ _ _ h => h) (Or.inl ⟨by rfl, ?_⟩) hHeld ?_ ?_
  rotate_left
  ·rintro w' ⟨s0, s1, s2, s3⟩
   go_simp
   with_reducible rfl
  rotate_left
  ·simp only [Act.put, List.setIfInBounds_toArray, List.set_cons_zero, List.set_cons_succ, i64_w, i32_w]
   rfl
  refine pu_ 6 37 (bt_ 21 127) HT_ ?_
  refine pu_ 7 38 (bt_ 21 255) HT_ ?_
  refine pu_ 8 39 (bt_ 21 511) HT_ ?_
  refine pu_ 10 41 (bt_ 21 1535) HT_ ?_
  refine take_ (i := 9) (N := some 40) (v := ?_) (a' := ?_) (bt_ 21 2047) rfl rfl (take_ofW HT_.out HW_.out (by kernel_rfl)) (fun _ _ _ h => h) (Or.inl ⟨by rfl, ?_⟩) hHeld ?_ ?_
  rotate_left
  ·rintro w' ⟨s0, s1, s2, s3⟩
   go_simp
   with_reducible rfl
  rotate_left
  ·simp only [Act.put, List.setIfInBounds_toArray, List.set_cons_zero, List.set_cons_succ, i64_w, i32_w]
   rfl
  refine pu_ 11 42 (bt_ 21 4095) HT_ ?_
  refine pu_ 12 43 (bt_ 21 8191) HT_ ?_
  refine pu_ 13 44 (bt_ 21 16383) HT_ ?_
  refine pu_ 14 45 (bt_ 21 32767) HT_ ?_
  refine pu_ 15 46 (bt_ 21 65535) HT_ ?_
  refine take_ (i := 16) (N := some 47) (v := ?_) (a' := ?_) (bt_ 21 131071) rfl rfl (take_ofW HT_.out HW_.out (by kernel_rfl)) (fun _ _ _ h => h) (Or.inl ⟨by rfl, ?_⟩) hHeld ?_ ?_
  rotate_left
  ·rintro w' ⟨s0, s1, s2, s3⟩
   go_simp
   with_reducible rfl
  rotate_left
  ·simp only [Act.put, List.setIfInBounds_toArray, List.set_cons_zero, List.set_cons_succ, i64_w, i32_w]
   rfl
  refine pu_ 17 48 (bt_ 21 262143) HT_ ?_
  refine take_ (i := 18) (N := some 49) (v := ?_) (a' := ?_) (bt_ 21 524287) rfl rfl (take_ofW HT_.out HW_.out (by kernel_rfl)) (fun _ _ _ h => h) (Or.inl ⟨by rfl, ?_⟩) hHeld ?_ ?_
  rotate_left
  ·rintro w' ⟨s0, s1, s2, s3⟩
   go_simp
   with_reducible rfl
  rotate_left
  ·simp only [Act.put, List.setIfInBounds_toArray, List.set_cons_zero, List.set_cons_succ, i64_w, i32_w]
   rfl
  refine pu_ 19 50 (bt_ 21 1048575) HT_ ?_
  refine pu_ 20 51 (bt_ 21 2097151) HT_ ?_
  refine done_ (done_of HT_.out (by kernel_rfl)) ?_
  try go_wp2
  replace HO_7 := Aside0.mk (Kd.R_drew HO_7.out)
  replace HO_8 := Aside0.mk (Kd.R_drew HO_8.out)
  replace BK398 := Aside0.mk (blk_drew BK398.out)
  replace HB := Aside0.mk (below_drew1 HB.out)
  have p401 : 0 ≤ (x9_1 : Int) := of_decide_eq_true dg_
  have q401 : x9_1 < (x8_2.length : Int) := of_decide_eq_true dg_
  obtain ⟨ad401, e401, hx401_0⟩ := Kd.at_int (Kd.R_reads' HO_8.out).2.2 x9_1 p401 q401
  obtain rfl : ad399 = ad401 := (by injection e401)
  replace p401 := eq_true p401
  replace q401 := eq_true q401
  have p402 : 0 ≤ ((rd x8_2 x9_1) : Int) := of_decide_eq_true dg_
  have q402 : (rd x8_2 x9_1) < (x7_2.length : Int) := of_decide_eq_true dg_
  obtain ⟨ad402, e402, hx402_0⟩ := Kd.at_int (Kd.R_reads' HO_7.out).2.2 (rd x8_2 x9_1) p402 q402
  obtain rfl : (⟨go7, 0, none⟩ : Addr) = ad402 := (by injection e402)
  (first | simp only [add_plain] at hx402_0 | simp only [add_at] at hx402_0 | simp only [Addr.add, Nat.zero_add] at hx402_0 | skip)
  replace p402 := eq_true p402
  replace q402 := eq_true q402
  have p30 : 0 ≤ (((rd_T98 l0 x27_2).f0) : Int) := of_decide_eq_true dg_
  have q30 : (((rd_T98 l0 x27_2).f0) : Int) < ((x7_2.length : Int) : Int) := of_decide_eq_true dg_
  obtain ⟨hx30_0, hf30_0⟩ := Kd.R_celln 0 HO_7.out (((rd_T98 l0 x27_2).f0) : Int) p30 q30
  replace p30 := eq_true p30
  replace q30 := eq_true q30
  have HP38 := Kd.R_putn HO_7.out (((rd_T98 l0 x27_2).f0) : Int) (wrap64 ((rd x7_2 (rd x8_2 x9_1)) + 1))
  rw [← Ny403.out] at HP38
  have HQ38 := Aside0.mk HP38
  clear HP38
  refine start_ (n := 13) (S := fun w' => w'.cell? ⟨gb398, 0, none⟩ = some (.int .i64 ((rd_T98 l0 x27_2).f0)) ∧ w'.cell? ⟨gb398, 1, none⟩ = some (.int .i64 ((rd_T98 l0 x27_2).f1)) ∧ w'.cell? (ad399.add (x9_1).toNat) = some (.int .i64 (rd x8_2 x9_1)) ∧ w'.cell? ⟨go7, ((rd x8_2 x9_1)).toNat, none⟩ = some (.int .i64 (rd x7_2 (rd x8_2 x9_1)))) (ds := [12]) #[false, false, false, false, false, false, false, false, false, false, false, false, false] (by kernel_rfl) rfl rfl ⟨(blk_cell BK398.out 0).trans rfl, (blk_cell BK398.out 1).trans rfl, hx401_0, hx402_0⟩ (fun hHeld => ?_); refine with_tabW impl_distancesTo.tab11 impl_distancesTo.bits11 (fun HT_ HW_ => ?_)
  generalize w35.drew = w37 at HO_7 HO_8 BK398 HB HQ38 hf30_0 hx30_0 hx401_0 hx402_0 hHeld ⊢
  refine pu_ 0 52 (bt_ 13 1) HT_ ?_
  refine pu_ 1 53 (bt_ 13 3) HT_ ?_
  refine pu_ 3 55 (bt_ 13 11) HT_ ?_
  refine pu_ 4 56 (bt_ 13 27) HT_ ?_
  refine pu_ 5 57 (bt_ 13 59) HT_ ?_
  refine pu_ 6 58 (bt_ 13 123) HT_ ?_
  refine take_ (i := 2) (N := some 54) (v := ?_) (a' := ?_) (bt_ 13 127) rfl rfl (take_ofW HT_.out HW_.out (by kernel_rfl)) (fun _ _ _ h => h) (Or.inl ⟨by rfl, ?_⟩) hHeld ?_ ?_
  rotate_left
  ·rintro w' ⟨s0, s1, s2, s3⟩
   go_simp
   with_reducible rfl
  rotate_left
  ·simp only [Act.put, List.setIfInBounds_toArray, List.set_cons_zero, List.set_cons_succ, i64_w, i32_w]
   rfl
  refine take_ (i := 7) (N := some 59) (v := ?_) (a' := ?_) (bt_ 13 255) rfl rfl (take_ofW HT_.out HW_.out (by kernel_rfl)) (fun _ _ _ h => h) (Or.inl ⟨by rfl, ?_⟩) hHeld ?_ ?_
  rotate_left
  ·rintro w' ⟨s0, s1, s2, s3⟩
   go_simp
   with_reducible rfl
  rotate_left
  ·simp only [Act.put, List.setIfInBounds_toArray, List.set_cons_zero, List.set_cons_succ, i64_w, i32_w]
   rfl
  refine pu_ 8 60 (bt_ 13 511) HT_ ?_
  refine take_ (i := 9) (N := some 61) (v := ?_) (a' := ?_) (bt_ 13 1023) rfl rfl (take_ofW HT_.out HW_.out (by kernel_rfl)) (fun _ _ _ h => h) (Or.inl ⟨by rfl, ?_⟩) hHeld ?_ ?_
  rotate_left
  ·rintro w' ⟨s0, s1, s2, s3⟩
   go_simp
   with_reducible rfl
  rotate_left
  ·simp only [Act.put, List.setIfInBounds_toArray, List.set_cons_zero, List.set_cons_succ, i64_w, i32_w]
   rfl
  refine pu_ 10 62 (bt_ 13 2047) HT_ ?_
  refine pu_ 11 63 (bt_ 13 4095) HT_ ?_
  refine last_ (i := 12) (N := none) (bt_ 13 8191) rfl rfl (one_of HT_.out (by kernel_rfl)) (by decide) (fun K hK => ?_)
  refine skip_ (w1 := ?_) (by rfl) rfl ?_ ?_
  rotate_left
  ·go_simp
   rfl
  refine hK.out _ _ ?_
  clear hK K
  refine done_ (done_of HT_.out (by kernel_rfl)) ?_
  obtain ⟨hcz39_0, hcz39_1, hfz39_0, hfz39_1⟩ := cz2_ BK398.out
  try (have hneb_ : gb398 ≠ go7 := by (have h_ := Kd.R_ne HO_7.out BK398.out (by decide)); intro e_; exact h_ (by rw [e_]; rfl))
  try (have hnec_ := Ne.symm hneb_)
  try go_wp2_with (first | ((with_reducible refine gate_builtin (b := .append) (xs := #[.tmp 64, .tmp 67]) rfl ?_); at_builtin; refine Kd.R_append (Kd.int .i64) (w0 := w) w.heap.size rfl (.tmp 64) (.tmp 67) 24 3 (.int .i64 0) 8 rfl Tryz.underlying24 info3 rfl (by decide) (by omega) (.slice (some ad399) x8_2.length co36) x8_2 ((rd_T98 l0 x27_2).f0) [.int .i64 ((rd_T98 l0 x27_2).f0)] (fun k_ => some k_ ≠ (.slice (some ⟨go7, 0, none⟩) x7_2.length co7 : Value).ownBlock) (fun _ => False) rfl (by first | (go_simp; done) | (go_simp; rfl)) ?aP (fun _ hk => hk.elim) ?aF ?aO ?aB ?aS ?aL ?_; (case aP => exact rfl); (case aB => exact (by repeat (first | (with_reducible first | exact HB.out | apply below_alloc | apply pw_below_drewN | apply below_drew1 | refine below_set ?_ GB7.out | refine below_set ?_ GE398.out) | exact HB.out))); (case aF => exact (fun k_ hk => Kd.fresh' (Kd.R_lt (by (with_reducible repeat (first | apply Kd.R_alloc | apply Kd.R_drewN | apply Kd.R_drew)); exact HQ38.out)) k_ hk)); (case aO => exact (rm_ (Kd.R_mono HO_8.out (fun k_ hk => (⟨hk, fun e_ => hk (by rw [e_]; rfl)⟩ : _ ∧ k_ ≠ go7))) (fun _ hk => hk.1))); (case aS => exact (below_size (by repeat (first | (with_reducible first | exact HB.out | apply below_alloc | apply pw_below_drewN | apply below_drew1 | refine below_set ?_ GB7.out | refine below_set ?_ GE398.out) | exact HB.out)))); (case aL => have := LMc31.out; omega); intro v405 w40 ho hb hg hat; rw [← Ny404.out] at ho; have n0_ := Aside0.mk (Kd.R_after (ok := (fun _ => True)) (by (with_reducible repeat (first | apply Kd.R_alloc | apply Kd.R_drewN | apply Kd.R_drew)); exact Kd.R_mono HQ38.out (fun _ hk => ⟨trivial, hk⟩)) hg hat); have n1_ := Aside0.mk (blk_grown (g := gb398) (o := .cells #[.int .i64 ((rd_T98 l0 x27_2).f0), .int .i64 ((rd_T98 l0 x27_2).f1)] 98 (0, 0)) (by (with_reducible repeat (first | refine blk_drewN ?_ _ | refine blk_drew ?_ | refine blk_alloc ?_ _)); refine blk_far ?_ (by have h_ := Kd.R_ne HO_7.out BK398.out (by decide); intro e_; exact h_ (by rw [e_]; rfl)) _; (with_reducible repeat (first | refine blk_drewN ?_ _ | refine blk_drew ?_ | refine blk_alloc ?_ _)); exact BK398.out) hg (Kd.R_ne HO_8.out BK398.out (by decide))); have n2_ := Aside0.mk (hb); have n3_ := Aside0.mk (ho); clear HO_7; clear BK398; clear HB; clear HO_8; have HO_7 := n0_; have BK398 := n1_; have HB := n2_; have HO406 := n3_; clear n0_ n1_ n2_ n3_; clear ho hb hg hat))
  (try simp only [← hl7_2])
  go_roundg k2
  case measure => have := HK1.out; have := HK2.out; omega
  case rel => exact ⟨(y403), (y404), (wrap64 (x27_2 + 1)), ef_, H', ⟨by have := HK1.out; have := HK2.out; omega⟩, ⟨by (try simp only [hl7_1]); (try simp only [hl7_2]); (with_reducible repeat (first | apply Kd.R_alloc | apply Kd.R_drewN | apply Kd.R_drew)); exact Kd.R_mono HO_7.out (fun _ hk => hk.2)⟩, ⟨by (try simp only [hl7_1]); (try simp only [hl7_2]); (with_reducible repeat (first | apply Kd.R_alloc | apply Kd.R_drewN | apply Kd.R_drew)); exact HO406.out⟩, ⟨bb_ HB.out⟩⟩
 ·rw [if_neg c5] at H
  exact absurd H (by simp)

end Go.Proofs.YtimdefbpoddoaaaGreat.PFnVerdicts
-- thin
