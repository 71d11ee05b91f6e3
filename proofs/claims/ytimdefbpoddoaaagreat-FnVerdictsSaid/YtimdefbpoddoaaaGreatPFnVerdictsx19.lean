/- The law's functions as plain functions, and their calls. No condition. -/
import Derived.Test.YtimdefbpoddoaaaGreatPFnVerdictsx0
import Derived.Test.YtimdefbpoddoaaaGreatPFnVerdictsx1
import Derived.Test.YtimdefbpoddoaaaGreatPFnVerdictsx18
namespace Go.Proofs.YtimdefbpoddoaaaGreat.PFnVerdicts
open Go.RowKit Go.Proofs.YtimdefbpoddoaaaGreatW.PrintWords Go.Proofs.YtimdefbpoddoaaaGreatW.PrintLast Go.Proofs.YtimdefbpoddoaaaGreatW.PrintMore
attribute [local go_sem] max2_int min2_int max_two min_two max_three min_three max_four min_four
set_option linter.unusedVariables false
set_option maxHeartbeats 8000000
set_option maxRecDepth 100000
set_option linter.unusedSimpArgs false

attribute [local go_sem high] eqA98
/-! ### spec_l08Put: function 82 -/
def spec_l08Put.l0 : Nat → List (S98) → Int → Int → Int → Option ((List (S98)))
 | 0, _, _, _, _ => none
 | k + 1, x0, x5, x525000, x525001 => if x5 > 0 then (if 0 ≤ (wrap64 (x5 - 1)) then (if (wrap64 (x5 - 1)) < (x0.length : Int) then ((spec_l08Less.f x525000 x525001 ((rd_T98 x0 (wrap64 (x5 - 1))).f0) ((rd_T98 x0 (wrap64 (x5 - 1))).f1)).bind fun t526 => (if t526 = true then (spec_l08Put.l0 k x0 (wrap64 (x5 - 1)) x525000 x525001) else (if (((rd_T98 x0 (wrap64 (x5 - 1))).f0) == x525000 && (((rd_T98 x0 (wrap64 (x5 - 1))).f1) == x525001)) = true then (some x0) else ((some (([] : List (S98)) : List (S98))).bind fun y528 => (if 0 ≤ x5 then (if x5 ≤ (x0.length : Int) then ((some (x0.take (x5 : Int).toNat : List (S98))).bind fun y531 => (if y528.length + y531.length < 8796093022208 then ((some (y528 ++ y531 : List (S98))).bind fun y535 => (if y535.length < 8796093022208 then ((some (y535 ++ [(⟨x525000, x525001⟩ : S98)] : List (S98))).bind fun y538 => ((some (x0.drop (x5 : Int).toNat : List (S98))).bind fun y541 => (if y538.length + y541.length < 8796093022208 then (some (y538 ++ y541)) else (none)))) else (none))) else (none))) else (none)) else (none)))))) else (none)) else (none)) else ((some (([] : List (S98)) : List (S98))).bind fun y548 => (if 0 ≤ x5 then (if x5 ≤ (x0.length : Int) then ((some (x0.take (x5 : Int).toNat : List (S98))).bind fun y551 => (if y548.length + y551.length < 8796093022208 then ((some (y548 ++ y551 : List (S98))).bind fun y555 => (if y555.length < 8796093022208 then ((some (y555 ++ [(⟨x525000, x525001⟩ : S98)] : List (S98))).bind fun y558 => ((some (x0.drop (x5 : Int).toNat : List (S98))).bind fun y561 => (if y558.length + y561.length < 8796093022208 then (some (y558 ++ y561)) else (none)))) else (none))) else (none))) else (none)) else (none)))
def spec_l08Put.f (k : Nat) (l0 : List (S98)) (a1_0 : Int) (a1_1 : Int) : Option ((List (S98))) := spec_l08Put.l0 k l0 (l0.length : Int) a1_0 a1_1
theorem spec_l08Put.mono_l : ∀ k, (∀ y0 y1 y2 y3, LeO (spec_l08Put.l0 k y0 y1 y2 y3) (spec_l08Put.l0 (k + 1) y0 y1 y2 y3))
 | 0 => fun _ _ _ _ r h => by simp [spec_l08Put.l0] at h
 | k + 1 => by
  have ih0 := spec_l08Put.mono_l k
  ·intro y0 y1 y2 y3
   unfold spec_l08Put.l0
   repeat' (with_reducible first | exact ih0 .. | exact LeO.refl .. | exact LeO.none .. | refine LeO.ite ?_ ?_ | refine LeO.bind ?_ (fun _ => ?_))
theorem spec_l08Put.mono : ∀ a0 a1 a2 k, LeO (spec_l08Put.f k a0 a1 a2) (spec_l08Put.f (k + 1) a0 a1 a2) := by
 intro a0 a1 a2 k
 have ih0 := spec_l08Put.mono_l k
 unfold spec_l08Put.f
 repeat' (with_reducible first | exact ih0 .. | exact LeO.refl .. | exact LeO.none .. | refine LeO.ite ?_ ?_ | refine LeO.bind ?_ (fun _ => ?_))
def spec_l08Put.T2 : Bool × List (List Nat × List Nat) := (true, [([], []), ([0], [0]), ([1], [1]), ([2], [2]), ([2], [2]), ([2], [2]), ([5, 2], [2, 5]), ([4, 6, 2], [2, 4, 6]), ([7, 2], [2, 7]), ([3, 8, 2, 2], [2, 3, 8]), ([2, 9], [2, 9])])
def spec_l08Put.B2 : List Nat := [0, 1, 3, 7, 7, 7, 39, 119, 247, 511, 1023]
theorem spec_l08Put.tab2 : rtab .any (opsOf Tryz.f82 2) = spec_l08Put.T2 := by kernel_rfl
theorem spec_l08Put.bits2 : waitsOk spec_l08Put.T2.2 spec_l08Put.B2 = true := by kernel_rfl
def spec_l08Put.T4 : Bool × List (List Nat × List Nat) := (true, [([], []), ([0], [0]), ([1], [1]), ([2], [2]), ([2], [2]), ([4, 2], [2, 4]), ([3, 5, 2], [2, 3, 5]), ([6, 2], [2, 6]), ([2], [2]), ([7, 8, 2], [2, 7, 8]), ([2, 9], [2, 9])])
def spec_l08Put.B4 : List Nat := [0, 1, 3, 7, 7, 23, 63, 127, 7, 511, 1023]
theorem spec_l08Put.tab4 : rtab .any (opsOf Tryz.f82 4) = spec_l08Put.T4 := by kernel_rfl
theorem spec_l08Put.bits4 : waitsOk spec_l08Put.T4.2 spec_l08Put.B4 = true := by kernel_rfl
theorem spec_l08Put.calls (k : Nat) (P0_ : Nat → Prop) (u9000_ : Value) (l0 : List (S98)) (a1_0 : Int) (a1_1 : Int) (r : List (S98)) (w0 w : World) (hB : Below w0.heap.size w0 w) (ho0 : Kd.R k98 98 w w0.heap.size P0_ u9000_ l0) (h : spec_l08Put.f k l0 a1_0 a1_1 = some r) :
  Calls Tryz.prog 82 #[u9000_, .agg #[.int .i64 a1_0, .int .i64 a1_1]] w fun e w' => ∃ v0_ : Value, e = .returned (v0_) ∧ Kd.R k98 98 w' w0.heap.size (fun k_ => (P0_ k_ ∨ w.heap.size ≤ k_)) v0_ r ∧ Below w0.heap.size w0 w' ∧ Kept w w' (fun k_ => P0_ k_) := by
 have hu98 := Tryz.underlying98
 have HO0 := Aside0.mk (show Kd.R k98 98 w w0.heap.size (fun k_ => (P0_ k_ ∨ w.heap.size ≤ k_)) u9000_ l0 from Kd.R_mono ho0 (fun k_ hk => (.inl hk)))
 have HK := Aside0.mk (Kept.refl w (fun k_ => P0_ k_))
 have HW0 := Aside0.mk hB.size
 have HB := Aside0.mk hB
 clear hB
 have H : (spec_l08Put.l0 k l0 (l0.length : Int) a1_0 a1_1) = some r := h
 clear h
 have H' := Aside0.mk H
 clear H
 go_enter Tryz.func82, Tryz.ntmps82
 go_wp2_with (first | ((with_reducible refine gate_dst (N := 3) rfl ?_); refine box_event ?hg (N := 3) ?hd (cs := #[.int .i64 a1_0, .int .i64 a1_1]) (t := 98) ?hr ?_; (case hd => rfl); (case hg => rfl); (case hr => first | (go_simp; done) | (go_simp; rfl)); intro gb524 hg w3 hbox hb; replace HO0 := Aside0.mk (Kd.R_below (Kd.R_elderB (ra_ HO0.out) gb524 (Nat.le_of_eq hg.symm)) hb); have BK524 := Aside0.mk (hbox); have GW524 := Aside0.mk ((by rw [hg]; exact (by first | exact HK.out.1 | exact (show Kept w _ (fun k_ => P0_ k_) from by repeat (first | (with_reducible first | exact HK.out | apply Kept.alloc | apply Kept.drewN | apply Kept.drew) | exact HK.out)).1) : w.heap.size ≤ gb524)); replace HK := Aside0.mk (Kept.below (S := (fun k_ => P0_ k_)) (by repeat (first | (with_reducible first | exact HK.out | apply Kept.alloc | apply Kept.drewN | apply Kept.drew) | exact HK.out)) hb); have GE524 := Aside0.mk ((by rw [hg]; exact (bz_ HB.out) : w0.heap.size ≤ gb524)); replace HB := hs_ HB hb; clear hb hbox hg; obtain ⟨Ao4, co4, eo4⟩ := Kd.R_slice HO0.out; subst eo4))
 go_loopg [5] k (fun kq v5 w' => ∃ (x5_1 : Int), v5 = .int .i64 x5_1 ∧ Aside0 (spec_l08Put.l0 kq l0 x5_1 a1_0 a1_1 = some r) ∧ Aside0 (kq ≤ k) ∧ Aside0 (Kd.R k98 98 w' w0.heap.size (fun k_ => (P0_ k_ ∨ w.heap.size ≤ k_) ∧ k_ ≠ gb524) (.slice Ao4 l0.length co4) l0) ∧ Aside0 (w'.heap[gb524]? = some (.cells #[.int .i64 a1_0, .int .i64 a1_1] 98 (0, 0))) ∧ Aside0 (Kept w w' (fun k_ => P0_ k_)) ∧ Aside0 (Below w0.heap.size w0 w'))
 case atStart => exact ⟨((l0.length : Int)), ef_, H', ⟨Nat.le_refl _⟩, ⟨ra_ HO0.out⟩, ⟨bq_ BK524.out⟩, ⟨by repeat (first | (with_reducible first | exact HK.out | apply Kept.alloc | apply Kept.drewN | apply Kept.drew | refine Kept.setCell ?_ (.inr GW524.out) _) | exact HK.out)⟩, ⟨bb_ HB.out⟩⟩
 clear H'
 obtain ⟨x5_1, rfl, HA, HK1, HO_0, BK524, HK, HB⟩ := hrel
 obtain _ | k1 := gk
 ·exact absurd HA.out (by simp [spec_l08Put.l0])
 have H := HA.out
 clear HA
 simp only [spec_l08Put.l0] at H
 by_cases c5 : x5_1 > 0
 rotate_left
 ·rw [if_neg c5] at H
  have c5b0 : decide (0 < x5_1) = false := decide_eq_false c5
  clear c5
  obtain ⟨y548, Ny548, H⟩ := bo_ H
  by_cases c35 : 0 ≤ x5_1
  rotate_left
  ·rw [if_neg c35] at H
   exact absurd H (by simp)
  rw [if_pos c35] at H
  have c35b0 := eq_true c35
  have c35b1 : decide (0 ≤ x5_1) = true := decide_eq_true c35
  clear c35
  by_cases c36 : x5_1 ≤ (l0.length : Int)
  rotate_left
  ·rw [if_neg c36] at H
   exact absurd H (by simp)
  rw [if_pos c36] at H
  have c36b0 := eq_true c36
  have c36b1 : decide (x5_1 ≤ (l0.length : Int)) = true := decide_eq_true c36
  clear c36
  obtain ⟨y551, Ny551, H⟩ := bo_ H
  by_cases c37 : y548.length + y551.length < 8796093022208
  rotate_left
  ·rw [if_neg c37] at H
   exact absurd H (by simp)
  rw [if_pos c37] at H
  have LMc37 := Aside0.mk c37
  clear c37
  obtain ⟨y555, Ny555, H⟩ := bo_ H
  by_cases c38 : y555.length < 8796093022208
  rotate_left
  ·rw [if_neg c38] at H
   exact absurd H (by simp)
  rw [if_pos c38] at H
  have LMc38 := Aside0.mk c38
  clear c38
  obtain ⟨y558, Ny558, H⟩ := bo_ H
  have c39b0 := eq_true (of_decide_eq_true dg_ : 0 ≤ x5_1)
  have c40b0 := eq_true (of_decide_eq_true dg_ : x5_1 ≤ (l0.length : Int))
  obtain ⟨y561, Ny561, H⟩ := bo_ H
  by_cases c41 : y558.length + y561.length < 8796093022208
  rotate_left
  ·rw [if_neg c41] at H
   exact absurd H (by simp)
  rw [if_pos c41] at H
  have LMc41 := Aside0.mk c41
  clear c41
  obtain ⟨y565, hy565⟩ : ∃ y_ : List (S98), y_ = (y558 ++ y561) := ⟨_, rfl⟩
  replace H : (some y565) = some r := by first | (rw [hy565]; with_reducible exact H) | (have H2_ := (Option.bind_some _ _).symm.trans H; rw [hy565]; with_reducible exact H2_) | (have H2_ := (Option.bind_some _ _).symm.trans H; with_reducible exact H2_) | with_reducible exact H | (rw [hy565]; exact H) | exact H
  have Ny565 := Aside0.mk hy565
  clear hy565
  obtain rfl := Option.some.inj H
  try go_wp2
  replace HO_0 := Aside0.mk (Kd.R_drew HO_0.out)
  replace BK524 := Aside0.mk (blk_drew BK524.out)
  replace HK := Aside0.mk (Kept.drew HK.out)
  replace HB := Aside0.mk (below_drew1 HB.out)
  refine start_ (n := 11) (S := fun w' => True) (ds := []) #[false, false, false, false, false, false, false, false, false, false, false] (by kernel_rfl) rfl rfl trivial (fun hHeld => ?_); refine with_tabW spec_l08Put.tab2 spec_l08Put.bits2 (fun HT_ HW_ => ?_)
  generalize wr.drew = w42 at HO_0 BK524 HK HB hHeld ⊢
  refine pu_ 0 9 (bt_ 11 1) HT_ ?_
  refine pu_ 1 10 (bt_ 11 3) HT_ ?_
  refine pu_ 2 11 (bt_ 11 7) HT_ ?_
  refine un_ 3 12 (bt_ 11 15) HT_ ?_
  refine un_ 4 13 (bt_ 11 31) HT_ ?_
  refine un_ 5 14 (bt_ 11 63) HT_ ?_
  refine un_ 6 15 (bt_ 11 127) HT_ ?_
  refine un_ 7 16 (bt_ 11 255) HT_ ?_
  refine un_ 8 17 (bt_ 11 511) HT_ ?_
  refine un_ 9 18 (bt_ 11 1023) HT_ ?_
  refine pu_ 10 19 (bt_ 11 2047) HT_ ?_
  refine done_ (done_of HT_.out (by kernel_rfl)) ?_
  try go_wp2
  replace HO_0 := Aside0.mk (Kd.R_drew HO_0.out)
  replace BK524 := Aside0.mk (blk_drew BK524.out)
  replace HK := Aside0.mk (Kept.drew HK.out)
  replace HB := Aside0.mk (below_drew1 HB.out)
  refine start_ (n := 11) (S := fun w' => True) (ds := []) #[false, false, false, false, false, false, false, false, false, false, false] (by kernel_rfl) rfl rfl trivial (fun hHeld => ?_); refine with_tabW spec_l08Put.tab4 spec_l08Put.bits4 (fun HT_ HW_ => ?_)
  generalize w42.drew = w43 at HO_0 BK524 HK HB hHeld ⊢
  refine pu_ 0 22 (bt_ 11 1) HT_ ?_
  refine pu_ 1 23 (bt_ 11 3) HT_ ?_
  refine pu_ 2 24 (bt_ 11 7) HT_ ?_
  refine un_ 3 25 (bt_ 11 15) HT_ ?_
  refine un_ 4 26 (bt_ 11 31) HT_ ?_
  refine un_ 5 27 (bt_ 11 63) HT_ ?_
  refine un_ 6 28 (bt_ 11 127) HT_ ?_
  refine un_ 7 29 (bt_ 11 255) HT_ ?_
  refine un_ 8 30 (bt_ 11 511) HT_ ?_
  refine un_ 9 31 (bt_ 11 1023) HT_ ?_
  refine pu_ 10 32 (bt_ 11 2047) HT_ ?_
  refine done_ (done_of HT_.out (by kernel_rfl)) ?_
  try go_wp2_with (first | ((with_reducible refine gate_dst (N := 34) rfl ?_); refine Kd.R_lit k98 _ 98 ?hg (N := 34) ?hd (xs := ([] : List (S98))) (inner := []) (ok := fun _ => True) (okp := fun _ => True) ?hr ?hp (fun _ hk => hk) trivial (Below.refl _ _) (Nat.le_refl _) (by simp) ?_; (case hd => rfl); (case hg => rfl); (case hr => first | (go_simp; done) | (go_simp; rfl)); (case hp => exact (Reps.none _ _)); intro v549 w44 ho45 hb hg_ hnew_; clear hg_ hnew_; (first | rw [← Ny548.out] at ho45 | (simp only [Int.reduceToNat] at ho45; rw [← Ny548.out] at ho45)); have HO550 := Aside0.mk (Kd.R_lower (Kd.R_newB (Kd.R_new' (Kd.R_newM (M := fun k_ => (P0_ k_ ∨ w.heap.size ≤ k_)) ho45 (by first | exact HK.out.1 | exact (show Kept w _ (fun k_ => P0_ k_) from by repeat (first | (with_reducible first | exact HK.out | apply Kept.alloc | apply Kept.drewN | apply Kept.drew | refine Kept.setCell ?_ (.inr GW524.out) _) | exact HK.out)).1) (fun k_ h_ => .inr h_)) (rl_ HO_0.out)) (g := gb524) (o := .cells #[.int .i64 a1_0, .int .i64 a1_1] 98 (0, 0)) (by (with_reducible repeat (first | refine blk_drewN ?_ _ | refine blk_drew ?_ | refine blk_alloc ?_ _)); exact BK524.out)) (bz_ HB.out)); replace HO_0 := re_ HO_0 ho45 hb; replace BK524 := kb_ BK524 hb; replace HK := Aside0.mk (Kept.below (S := (fun k_ => P0_ k_)) (by repeat (first | (with_reducible first | exact HK.out | apply Kept.alloc | apply Kept.drewN | apply Kept.drew | refine Kept.setCell ?_ (.inr GW524.out) _) | exact HK.out)) hb); replace HB := hs_ HB hb; clear hb ho45; have q46 : (x5_1 : Int) ≤ ((l0.length : Int) : Int) := of_decide_eq_true dg_; obtain ⟨i046, hi046, _, hsz46, _⟩ := info_parts info98; have hroom46 : l0.length ≤ co4 := (Kd.R_reads' HO_0.out).2.1; have hC46 : Kd.C k98 _ Ao4 l0.length l0 := (Kd.R_reads' HO_0.out).2.2; have hcut46 := cut_to (P := Tryz.prog) 62 98 .i64 Tryz.underlying62 hi046 Ao4 l0.length co4 x5_1 (of_decide_eq_true dg_) q46 hroom46; have hr46 := Kd.C_take (m := (x5_1 : Int).toNat) hC46 (by omega); have hy46 : y551.length = (x5_1 : Int).toNat := (by rw [Ny551.out, List.length_take]; omega); rw [← Ny551.out] at hr46; rw [← hy46] at hcut46; have HR554 := Aside0.mk hr46; have HC554 := Aside0.mk (show y551.length ≤ co4 from by omega); clear hr46 hC46 hroom46 hi046 hsz46; have KY46 := Aside0.mk hy46; clear hy46; have KL46 := Aside0.mk (show (x5_1 : Int).toNat ≤ l0.length from by omega); replace q46 := eq_true q46) | ((with_reducible refine gate_builtin (b := .append) (xs := #[.tmp 34, .tmp 37]) rfl ?_); at_builtin; refine Kd.R_append_rows k98 (w0 := w0) w0.heap.size rfl (.tmp 34) (.tmp 37) 62 98 (.agg #[(.int .i64 0), (.int .i64 0)]) 16 rfl Tryz.underlying62 info98 rfl (by decide) (by omega) v549 y548 y551 _ _ _ (fun k_ => (P0_ k_ ∨ w.heap.size ≤ k_) ∧ some k_ ≠ (.slice Ao4 l0.length co4 : Value).ownBlock ∧ k_ ≠ gb524) (fun _ => False) rfl rfl ?aO ?aR (fun _ _ h => h) (fun _ h => h.elim) ?aF ?aB ?aS ?aL ?_; (case aR => repeat (first | exact (by repeat (first | (with_reducible exact HR554.out) | (with_reducible refine Kd.C_alloc ?_ _) | (with_reducible refine Kd.C_drewN ?_ _) | (with_reducible refine Kd.C_drew ?_) | exact HR554.out)) | (with_reducible refine Kd.C_alloc ?_ _) | (with_reducible refine Kd.C_drewN ?_ _) | (with_reducible refine Kd.C_drew ?_))); (case aB => exact (by repeat (first | (with_reducible first | exact HB.out | apply below_alloc | apply pw_below_drewN | apply below_drew1 | refine below_set ?_ GE524.out) | exact HB.out))); (case aF => exact (fun k_ hk => ⟨(.inr (Nat.le_trans (by first | exact HK.out.1 | exact (show Kept w _ (fun k_ => P0_ k_) from by repeat (first | (with_reducible first | exact HK.out | apply Kept.alloc | apply Kept.drewN | apply Kept.drew | refine Kept.setCell ?_ (.inr GW524.out) _) | exact HK.out)).1) hk)), Kd.fresh' (rl_ HO_0.out) k_ hk, Kd.freshB (g := gb524) (o := .cells #[.int .i64 a1_0, .int .i64 a1_1] 98 (0, 0)) (by (with_reducible repeat (first | refine blk_drewN ?_ _ | refine blk_drew ?_ | refine blk_alloc ?_ _)); exact BK524.out) k_ hk⟩)); (case aO => exact (by (with_reducible repeat (first | apply Kd.R_alloc | apply Kd.R_drewN | apply Kd.R_drew)); exact Kd.R_mono HO550.out (fun _ hk => ⟨hk.1.1.1, ⟨hk.1.2, hk.2⟩⟩))); (case aS => exact (bz_ HB.out)); (case aL => have := LMc37.out; omega); intro v556 w47 ho hb hg hat; rw [← Ny555.out] at ho; have n0_ := Aside0.mk (Kd.R_after (ok := (fun k_ => (P0_ k_ ∨ w.heap.size ≤ k_) ∧ k_ ≠ gb524)) (ra_ HO_0.out) hg hat); have n1_ := Aside0.mk (blk_grown (g := gb524) (o := .cells #[.int .i64 a1_0, .int .i64 a1_1] 98 (0, 0)) (by (with_reducible repeat (first | refine blk_drewN ?_ _ | refine blk_drew ?_ | refine blk_alloc ?_ _)); exact BK524.out) hg (Kd.R_away HO550.out (fun _ hk => hk.2))); have n2_ := Aside0.mk (hb); have n3_ := Aside0.mk (Kept.of_grown (S := (fun k_ => P0_ k_)) hg (by repeat (first | (with_reducible first | exact HK.out | apply Kept.alloc | apply Kept.drewN | apply Kept.drew | refine Kept.setCell ?_ (.inr GW524.out) _) | exact HK.out)) (fun k_ e_ => (HO550.out.1 k_ e_).1.1.1)); have n4_ := Aside0.mk ((show Kd.C k98 w47 Ao4 y551.length y551 from by rw [Ny551.out]; exact Kd.C_take (m := (x5_1 : Int).toNat) ((Kd.R_reads' (Kd.R_after (ok := (fun k_ => (P0_ k_ ∨ w.heap.size ≤ k_) ∧ k_ ≠ gb524)) (ra_ HO_0.out) hg hat)).2.2) KL46.out)); have n5_ := Aside0.mk (ho); clear HO_0; clear BK524; clear HB; clear HK; clear HR554; clear HO550; have HO_0 := n0_; have BK524 := n1_; have HB := n2_; have HK := n3_; have HR554 := n4_; have HO557 := n5_; clear n0_ n1_ n2_ n3_ n4_ n5_; clear ho hb hg hat; obtain ⟨hcz48_0, hcz48_1, hfz48_0, hfz48_1⟩ := cz2_ BK524.out) | ((with_reducible refine gate_builtin (b := .append) (xs := #[.tmp 39, .tmp 41]) rfl ?_); at_builtin; refine Kd.R_append k98 (w0 := w0) w0.heap.size rfl (.tmp 39) (.tmp 41) 62 98 (.agg #[(.int .i64 0), (.int .i64 0)]) 16 rfl Tryz.underlying62 info98 rfl (by decide) (by omega) v556 y555 (⟨a1_0, a1_1⟩ : S98) [.int .i64 a1_0, .int .i64 a1_1] (fun k_ => (P0_ k_ ∨ w.heap.size ≤ k_) ∧ some k_ ≠ (.slice Ao4 l0.length co4 : Value).ownBlock ∧ k_ ≠ gb524) (fun _ => False) rfl rfl ?aP (fun _ hk => hk.elim) ?aF ?aO ?aB ?aS ?aL ?_; (case aP => exact k98_mkM _ _ _ (⟨a1_0, a1_1⟩ : S98)); (case aB => exact (by repeat (first | (with_reducible first | exact HB.out | apply below_alloc | apply pw_below_drewN | apply below_drew1 | refine below_set ?_ GE524.out) | exact HB.out))); (case aF => exact (fun k_ hk => ⟨(.inr (Nat.le_trans (by first | exact HK.out.1 | exact (show Kept w _ (fun k_ => P0_ k_) from by repeat (first | (with_reducible first | exact HK.out | apply Kept.alloc | apply Kept.drewN | apply Kept.drew | refine Kept.setCell ?_ (.inr GW524.out) _) | exact HK.out)).1) hk)), Kd.fresh' (rl_ HO_0.out) k_ hk, Kd.freshB (g := gb524) (o := .cells #[.int .i64 a1_0, .int .i64 a1_1] 98 (0, 0)) (by (with_reducible repeat (first | refine blk_drewN ?_ _ | refine blk_drew ?_ | refine blk_alloc ?_ _)); exact BK524.out) k_ hk⟩)); (case aO => exact (ra_ HO557.out)); (case aS => exact (bz_ HB.out)); (case aL => have := LMc38.out; omega); intro v559 w49 ho hb hg hat; rw [← Ny558.out] at ho; have n0_ := Aside0.mk (Kd.R_after (ok := (fun k_ => (P0_ k_ ∨ w.heap.size ≤ k_) ∧ k_ ≠ gb524)) (ra_ HO_0.out) hg hat); have n1_ := Aside0.mk (blk_grown (g := gb524) (o := .cells #[.int .i64 a1_0, .int .i64 a1_1] 98 (0, 0)) (by (with_reducible repeat (first | refine blk_drewN ?_ _ | refine blk_drew ?_ | refine blk_alloc ?_ _)); exact BK524.out) hg (Kd.R_away HO557.out (fun _ hk => hk.2.2))); have n2_ := Aside0.mk (hb); have n3_ := Aside0.mk (Kept.of_grown (S := (fun k_ => P0_ k_)) hg (by repeat (first | (with_reducible first | exact HK.out | apply Kept.alloc | apply Kept.drewN | apply Kept.drew | refine Kept.setCell ?_ (.inr GW524.out) _) | exact HK.out)) (fun k_ e_ => (HO557.out.1 k_ e_).1)); have n4_ := Aside0.mk ((show Kd.C k98 w49 Ao4 y551.length y551 from by rw [Ny551.out]; exact Kd.C_take (m := (x5_1 : Int).toNat) ((Kd.R_reads' (Kd.R_after (ok := (fun k_ => (P0_ k_ ∨ w.heap.size ≤ k_) ∧ k_ ≠ gb524)) (ra_ HO_0.out) hg hat)).2.2) KL46.out)); have n5_ := Aside0.mk (ho); clear HO_0; clear BK524; clear HB; clear HK; clear HR554; clear HO557; have HO_0 := n0_; have BK524 := n1_; have HB := n2_; have HK := n3_; have HR554 := n4_; have HO560 := n5_; clear n0_ n1_ n2_ n3_ n4_ n5_; clear ho hb hg hat; have q50 : (x5_1 : Int) ≤ ((l0.length : Int) : Int) := of_decide_eq_true dg_; obtain ⟨i050, hi050, _, hsz50, _⟩ := info_parts info98; have hroom50 : l0.length ≤ co4 := (Kd.R_reads' HO_0.out).2.1; have hC50 : Kd.C k98 _ Ao4 l0.length l0 := (Kd.R_reads' HO_0.out).2.2; have q050 : (0 : Int) ≤ (x5_1 : Int) := of_decide_eq_true dg_; have hcut50 := cut_from (P := Tryz.prog) 62 98 .i64 Tryz.underlying62 hi050 2 hsz50 Ao4 l0.length co4 x5_1 q050 q50; have hr50 := Kd.C_drop (m := (x5_1 : Int).toNat) (c := co4) hC50 (by omega) hroom50; obtain ⟨A50, hA50⟩ : ∃ A1, A1 = (if co4 = (x5_1 : Int).toNat then Ao4 else (Ao4 : Option Addr).map (·.add ((x5_1 : Int).toNat * 2))) := ⟨_, rfl⟩; obtain ⟨c50, hc50⟩ : ∃ c1, c1 = co4 - (x5_1 : Int).toNat := ⟨_, rfl⟩; have hy50 : y561.length = l0.length - (x5_1 : Int).toNat := (by rw [Ny561.out, List.length_drop] <;> omega); rw [show (l0).drop (x5_1 : Int).toNat = y561 from Ny561.out.symm] at hr50; replace hr50 : Kd.C k98 _ A50 y561.length y561 := (by rw [hA50]; exact hr50); rw [← hy50, ← hA50, ← hc50] at hcut50; have HR564 := Aside0.mk hr50; have HC564 := Aside0.mk (show y561.length ≤ c50 from by rw [hy50, hc50]; exact Nat.sub_le_sub_right hroom50 _); clear hr50 hC50 hroom50 hi050 hsz50 hc50; have KY50 := Aside0.mk hy50; have KA50 := Aside0.mk hA50; clear hy50 hA50; have KL50 := Aside0.mk (show (x5_1 : Int).toNat ≤ l0.length from by omega); replace q50 := eq_true q50) | ((with_reducible refine gate_builtin (b := .append) (xs := #[.tmp 43, .tmp 46]) rfl ?_); at_builtin; refine Kd.R_append_rows k98 (w0 := w0) w0.heap.size rfl (.tmp 43) (.tmp 46) 62 98 (.agg #[(.int .i64 0), (.int .i64 0)]) 16 rfl Tryz.underlying62 info98 rfl (by decide) (by omega) v559 y558 y561 _ _ _ (fun k_ => (P0_ k_ ∨ w.heap.size ≤ k_) ∧ some k_ ≠ (.slice Ao4 l0.length co4 : Value).ownBlock ∧ k_ ≠ gb524) (fun _ => False) rfl rfl ?aO ?aR (fun _ _ h => h) (fun _ h => h.elim) ?aF ?aB ?aS ?aL ?_; (case aR => repeat (first | exact (by repeat (first | (with_reducible exact HR564.out) | (with_reducible refine Kd.C_alloc ?_ _) | (with_reducible refine Kd.C_drewN ?_ _) | (with_reducible refine Kd.C_drew ?_) | exact HR564.out)) | (with_reducible refine Kd.C_alloc ?_ _) | (with_reducible refine Kd.C_drewN ?_ _) | (with_reducible refine Kd.C_drew ?_))); (case aB => exact (by repeat (first | (with_reducible first | exact HB.out | apply below_alloc | apply pw_below_drewN | apply below_drew1 | refine below_set ?_ GE524.out) | exact HB.out))); (case aF => exact (fun k_ hk => ⟨(.inr (Nat.le_trans (by first | exact HK.out.1 | exact (show Kept w _ (fun k_ => P0_ k_) from by repeat (first | (with_reducible first | exact HK.out | apply Kept.alloc | apply Kept.drewN | apply Kept.drew | refine Kept.setCell ?_ (.inr GW524.out) _) | exact HK.out)).1) hk)), Kd.fresh' (rl_ HO_0.out) k_ hk, Kd.freshB (g := gb524) (o := .cells #[.int .i64 a1_0, .int .i64 a1_1] 98 (0, 0)) (by (with_reducible repeat (first | refine blk_drewN ?_ _ | refine blk_drew ?_ | refine blk_alloc ?_ _)); exact BK524.out) k_ hk⟩)); (case aO => exact (ra_ HO560.out)); (case aS => exact (bz_ HB.out)); (case aL => have := LMc41.out; omega); intro v566 w51 ho hb hg hat; rw [← Ny565.out] at ho; have n0_ := Aside0.mk (Kd.R_after (ok := (fun k_ => (P0_ k_ ∨ w.heap.size ≤ k_) ∧ k_ ≠ gb524)) (ra_ HO_0.out) hg hat); have n1_ := Aside0.mk (blk_grown (g := gb524) (o := .cells #[.int .i64 a1_0, .int .i64 a1_1] 98 (0, 0)) (by (with_reducible repeat (first | refine blk_drewN ?_ _ | refine blk_drew ?_ | refine blk_alloc ?_ _)); exact BK524.out) hg (Kd.R_away HO560.out (fun _ hk => hk.2.2))); have n2_ := Aside0.mk (hb); have n3_ := Aside0.mk (Kept.of_grown (S := (fun k_ => P0_ k_)) hg (by repeat (first | (with_reducible first | exact HK.out | apply Kept.alloc | apply Kept.drewN | apply Kept.drew | refine Kept.setCell ?_ (.inr GW524.out) _) | exact HK.out)) (fun k_ e_ => (HO560.out.1 k_ e_).1)); have n4_ := Aside0.mk ((show Kd.C k98 w51 Ao4 y551.length y551 from by rw [Ny551.out]; exact Kd.C_take (m := (x5_1 : Int).toNat) ((Kd.R_reads' (Kd.R_after (ok := (fun k_ => (P0_ k_ ∨ w.heap.size ≤ k_) ∧ k_ ≠ gb524)) (ra_ HO_0.out) hg hat)).2.2) KL46.out)); have n5_ := Aside0.mk ((show Kd.C k98 w51 A50 y561.length y561 from by rw [Ny561.out, KA50.out]; exact Kd.C_drop (m := (x5_1 : Int).toNat) (c := co4) ((Kd.R_reads' (Kd.R_after (ok := (fun k_ => (P0_ k_ ∨ w.heap.size ≤ k_) ∧ k_ ≠ gb524)) (ra_ HO_0.out) hg hat)).2.2) KL50.out ((Kd.R_reads' (Kd.R_after (ok := (fun k_ => (P0_ k_ ∨ w.heap.size ≤ k_) ∧ k_ ≠ gb524)) (ra_ HO_0.out) hg hat)).2.1))); have n6_ := Aside0.mk (ho); clear HO_0; clear BK524; clear HB; clear HK; clear HR554; clear HR564; clear HO560; have HO_0 := n0_; have BK524 := n1_; have HB := n2_; have HK := n3_; have HR554 := n4_; have HR564 := n5_; have HO567 := n6_; clear n0_ n1_ n2_ n3_ n4_ n5_ n6_; clear ho hb hg hat))
  go_ret
  exact ⟨_, fin_, by (with_reducible repeat (first | apply Kd.R_alloc | apply Kd.R_drewN | apply Kd.R_drew)); exact Kd.R_mono HO567.out (fun _ hk => hk.1), bb_ HB.out, by repeat (first | (with_reducible first | exact HK.out | apply Kept.alloc | apply Kept.drewN | apply Kept.drew | refine Kept.setCell ?_ (.inr GW524.out) _) | exact HK.out)⟩
 rw [if_pos c5] at H
 have c5b0 : decide (0 < x5_1) = true := decide_eq_true c5
 clear c5
 obtain ⟨ji6, hji6⟩ : ∃ j_ : Int, (wrap64 (x5_1 - 1)) = j_ := ⟨_, rfl⟩
 replace H : (if 0 ≤ (ji6) then (if (ji6) < (l0.length : Int) then ((spec_l08Less.f a1_0 a1_1 ((rd_T98 l0 (ji6)).f0) ((rd_T98 l0 (ji6)).f1)).bind fun t526 => (if t526 = true then (spec_l08Put.l0 k1 l0 ji6 a1_0 a1_1) else (if (((rd_T98 l0 (ji6)).f0) == a1_0 && (((rd_T98 l0 (ji6)).f1) == a1_1)) = true then (some l0) else ((some (([] : List (S98)) : List (S98))).bind fun y528 => (if 0 ≤ x5_1 then (if x5_1 ≤ (l0.length : Int) then ((some (l0.take (x5_1 : Int).toNat : List (S98))).bind fun y531 => (if y528.length + y531.length < 8796093022208 then ((some (y528 ++ y531 : List (S98))).bind fun y535 => (if y535.length < 8796093022208 then ((some (y535 ++ [(⟨a1_0, a1_1⟩ : S98)] : List (S98))).bind fun y538 => ((some (l0.drop (x5_1 : Int).toNat : List (S98))).bind fun y541 => (if y538.length + y541.length < 8796093022208 then (some (y538 ++ y541)) else (none)))) else (none))) else (none))) else (none)) else (none)))))) else (none)) else (none)) = some r := by first | (rw [hji6] at H; exact H) | (simp only [hji6] at H ⊢; exact H)
 have hji6w : (IntKind.i64.wrap (x5_1 - 1)) = ji6 := (i64_w _).trans hji6
 by_cases c7 : 0 ≤ (ji6)
 rotate_left
 ·rw [if_neg c7] at H
  exact absurd H (by simp)
 rw [if_pos c7] at H
 have c7b0 : decide (0 ≤ (ji6)) = true := decide_eq_true c7
 clear c7
 by_cases c8 : (ji6) < (l0.length : Int)
 rotate_left
 ·rw [if_neg c8] at H
  exact absurd H (by simp)
 rw [if_pos c8] at H
 have c8b0 : decide ((ji6) < (l0.length : Int)) = true := decide_eq_true c8
 clear c8
 obtain ⟨t526, A9, H⟩ := bi_ H
 by_cases c10 : t526 = true
 ·subst c10
  rw [if_pos rfl] at H
  have H' := Aside0.mk H
  clear H
  try go_wp2
  replace HO_0 := Aside0.mk (Kd.R_drew HO_0.out)
  replace BK524 := Aside0.mk (blk_drew BK524.out)
  replace HK := Aside0.mk (Kept.drew HK.out)
  replace HB := Aside0.mk (below_drew1 HB.out)
  have p525 : 0 ≤ ((ji6) : Int) := of_decide_eq_true dg_
  have q525 : (ji6) < (l0.length : Int) := of_decide_eq_true dg_
  obtain ⟨ad525, e525, hx525_0, hx525_1⟩ := at_T98 (Kd.R_reads' HO_0.out).2.2 (ji6) p525 q525
  cases e525
  replace p525 := eq_true p525
  replace q525 := eq_true q525
  refine start_ (n := 11) (S := fun w' => w'.cell? ⟨gb524, 0, none⟩ = some (.int .i64 a1_0) ∧ w'.cell? ⟨gb524, 1, none⟩ = some (.int .i64 a1_1) ∧ w'.cell? (ad525.add (((ji6)).toNat * 2)) = some (.int .i64 ((rd_T98 l0 (ji6)).f0)) ∧ w'.cell? ⟨(ad525.add (((ji6)).toNat * 2)).block, (ad525.add (((ji6)).toNat * 2)).off + 1, none⟩ = some (.int .i64 ((rd_T98 l0 (ji6)).f1))) (ds := []) #[false, false, false, false, false, false, false, false, false, false, false] (by kernel_rfl) rfl rfl ⟨(blk_cell BK524.out 0).trans rfl, (blk_cell BK524.out 1).trans rfl, hx525_0, hx525_1⟩ (fun hHeld => ?_); refine with_tabW spec_l08Put.tab2 spec_l08Put.bits2 (fun HT_ HW_ => ?_)
  generalize wr.drew = w11 at HO_0 BK524 HK HB hx525_0 hx525_1 hHeld ⊢
  refine pu_ 0 9 (bt_ 11 1) HT_ ?_
  refine pu_ 1 10 (bt_ 11 3) HT_ ?_
  refine pu_ 2 11 (bt_ 11 7) HT_ ?_
  refine pu_ 4 13 (bt_ 11 23) HT_ ?_
  refine pu_ 5 14 (bt_ 11 55) HT_ ?_
  refine pu_ 6 15 (bt_ 11 119) HT_ ?_
  refine pu_ 7 16 (bt_ 11 247) HT_ ?_
  refine take_ (i := 3) (N := some 12) (v := ?_) (a' := ?_) (bt_ 11 255) rfl rfl (take_ofW HT_.out HW_.out (by kernel_rfl)) (fun _ _ _ h => h) (Or.inl ⟨by rfl, ?_⟩) hHeld ?_ ?_
  rotate_left
  ·rintro w' ⟨s0, s1, s2, s3⟩
   go_simp
   with_reducible rfl
  rotate_left
  ·simp only [Act.put, List.setIfInBounds_toArray, List.set_cons_zero, List.set_cons_succ, i64_w, i32_w]
   rfl
  refine take_ (i := 8) (N := some 17) (v := ?_) (a' := ?_) (bt_ 11 511) rfl rfl (take_ofW HT_.out HW_.out (by kernel_rfl)) (fun _ _ _ h => h) (Or.inl ⟨by rfl, ?_⟩) hHeld ?_ ?_
  rotate_left
  ·rintro w' ⟨s0, s1, s2, s3⟩
   go_simp
   with_reducible rfl
  rotate_left
  ·simp only [Act.put, List.setIfInBounds_toArray, List.set_cons_zero, List.set_cons_succ, i64_w, i32_w]
   rfl
  refine one_ (i := 9) (N := some 18) (bt_ 11 1023) rfl rfl (one_of HT_.out (by kernel_rfl)) (by decide) (fun K hK => ?_)
  refine goes_ Tryz.func92 (by kernel_rfl) rfl #[.agg #[.int .i64 a1_0, .int .i64 a1_1], .agg #[.int .i64 ((rd_T98 l0 (ji6)).f0), .int .i64 ((rd_T98 l0 (ji6)).f1)]] (by rfl) rfl rfl (by (try simp only [List.map_toArray, List.map_cons, List.map_nil]); first | done | (simp only [hji6]; rfl) | rfl | (simp only [List.length_drop, List.length_take]; rfl)) ?_
  with_reducible refine (spec_l08Less.calls a1_0 a1_1 ((rd_T98 l0 (ji6)).f0) ((rd_T98 l0 (ji6)).f1) true _ A9.out).mono ?_
  rintro e w12 ⟨rfl, hb⟩
  have HS2_ := (hb.cell (World.block_lt_of_cell? _ _ (hHeld.2.2.1))).trans (hHeld.2.2.1)
  have HS3_ := (hb.cell (World.block_lt_of_cell? _ _ (hHeld.2.2.2))).trans (hHeld.2.2.2)
  refine ⟨_, rfl, ?_⟩
  replace HO_0 := rb_ HO_0 hb
  replace BK524 := kb_ BK524 hb
  replace HK := Aside0.mk (Kept.below (S := (fun k_ => P0_ k_)) (by repeat (first | (with_reducible first | exact HK.out | apply Kept.alloc | apply Kept.drewN | apply Kept.drew | refine Kept.setCell ?_ (.inr GW524.out) _) | exact HK.out)) hb)
  replace HB := hs_ HB hb
  (try clear hb)
  (try clear hk)
  refine hK.out _ _ ⟨(blk_cell BK524.out 0).trans rfl, (blk_cell BK524.out 1).trans rfl, HS2_, HS3_⟩ (fun hHeld => ?_)
  clear hK K
  refine norm_ (a' := ?_) ?_ ?_
  rotate_left
  ·show Act.put _ (some 18) _ = _
   simp only [Act.put, List.setIfInBounds_toArray, List.set_cons_zero, List.set_cons_succ, i64_w, i32_w]
   rfl
  refine pu_ 10 19 (bt_ 11 2047) HT_ ?_
  refine done_ (done_of HT_.out (by kernel_rfl)) ?_
  try go_wp2
  go_roundg k1
  case measure => have := HK1.out; omega
  case rel => exact ⟨(ji6), (by first | rfl | (simp; done) | (simp only [← hji6] <;> (first | rfl | simp)) | (simp [*]; done)), H', ⟨by have := HK1.out; omega⟩, ⟨ra_ HO_0.out⟩, ⟨bq_ BK524.out⟩, ⟨by repeat (first | (with_reducible first | exact HK.out | apply Kept.alloc | apply Kept.drewN | apply Kept.drew | refine Kept.setCell ?_ (.inr GW524.out) _) | exact HK.out)⟩, ⟨bb_ HB.out⟩⟩
 replace c10 := Bool.eq_false_iff.mpr c10
 subst c10
 rw [if_neg (show ¬ (false = true) by decide)] at H
 by_cases c13 : (((rd_T98 l0 (ji6)).f0) == a1_0 && (((rd_T98 l0 (ji6)).f1) == a1_1)) = true
 ·rw [if_pos c13] at H
  have c13b0 : (((rd_T98 l0 (ji6)).f0) == a1_0 && (((rd_T98 l0 (ji6)).f1) == a1_1)) = true := c13
  (try (have c13b1 : decide (((rd_T98 l0 (ji6)).f0) = a1_0 && (((rd_T98 l0 (ji6)).f1) == a1_1)) = true := by simpa using c13))
  (try (have c13b2 : (((rd_T98 l0 (ji6)).f0) == a1_0 && (((rd_T98 l0 (ji6)).f1) == a1_1)) = true := by simpa using c13))
  clear c13
  obtain rfl := Option.some.inj H
  try go_wp2
  replace HO_0 := Aside0.mk (Kd.R_drew HO_0.out)
  replace BK524 := Aside0.mk (blk_drew BK524.out)
  replace HK := Aside0.mk (Kept.drew HK.out)
  replace HB := Aside0.mk (below_drew1 HB.out)
  have p525 : 0 ≤ ((ji6) : Int) := of_decide_eq_true dg_
  have q525 : (ji6) < (l0.length : Int) := of_decide_eq_true dg_
  obtain ⟨ad525, e525, hx525_0, hx525_1⟩ := at_T98 (Kd.R_reads' HO_0.out).2.2 (ji6) p525 q525
  cases e525
  replace p525 := eq_true p525
  replace q525 := eq_true q525
  refine start_ (n := 11) (S := fun w' => w'.cell? ⟨gb524, 0, none⟩ = some (.int .i64 a1_0) ∧ w'.cell? ⟨gb524, 1, none⟩ = some (.int .i64 a1_1) ∧ w'.cell? (ad525.add (((ji6)).toNat * 2)) = some (.int .i64 ((rd_T98 l0 (ji6)).f0)) ∧ w'.cell? ⟨(ad525.add (((ji6)).toNat * 2)).block, (ad525.add (((ji6)).toNat * 2)).off + 1, none⟩ = some (.int .i64 ((rd_T98 l0 (ji6)).f1))) (ds := []) #[false, false, false, false, false, false, false, false, false, false, false] (by kernel_rfl) rfl rfl ⟨(blk_cell BK524.out 0).trans rfl, (blk_cell BK524.out 1).trans rfl, hx525_0, hx525_1⟩ (fun hHeld => ?_); refine with_tabW spec_l08Put.tab2 spec_l08Put.bits2 (fun HT_ HW_ => ?_)
  generalize wr.drew = w14 at HO_0 BK524 HK HB hx525_0 hx525_1 hHeld ⊢
  refine pu_ 0 9 (bt_ 11 1) HT_ ?_
  refine pu_ 1 10 (bt_ 11 3) HT_ ?_
  refine pu_ 2 11 (bt_ 11 7) HT_ ?_
  refine pu_ 4 13 (bt_ 11 23) HT_ ?_
  refine pu_ 5 14 (bt_ 11 55) HT_ ?_
  refine pu_ 6 15 (bt_ 11 119) HT_ ?_
  refine pu_ 7 16 (bt_ 11 247) HT_ ?_
  refine take_ (i := 3) (N := some 12) (v := ?_) (a' := ?_) (bt_ 11 255) rfl rfl (take_ofW HT_.out HW_.out (by kernel_rfl)) (fun _ _ _ h => h) (Or.inl ⟨by rfl, ?_⟩) hHeld ?_ ?_
  rotate_left
  ·rintro w' ⟨s0, s1, s2, s3⟩
   go_simp
   with_reducible rfl
  rotate_left
  ·simp only [Act.put, List.setIfInBounds_toArray, List.set_cons_zero, List.set_cons_succ, i64_w, i32_w]
   rfl
  refine take_ (i := 8) (N := some 17) (v := ?_) (a' := ?_) (bt_ 11 511) rfl rfl (take_ofW HT_.out HW_.out (by kernel_rfl)) (fun _ _ _ h => h) (Or.inl ⟨by rfl, ?_⟩) hHeld ?_ ?_
  rotate_left
  ·rintro w' ⟨s0, s1, s2, s3⟩
   go_simp
   with_reducible rfl
  rotate_left
  ·simp only [Act.put, List.setIfInBounds_toArray, List.set_cons_zero, List.set_cons_succ, i64_w, i32_w]
   rfl
  refine one_ (i := 9) (N := some 18) (bt_ 11 1023) rfl rfl (one_of HT_.out (by kernel_rfl)) (by decide) (fun K hK => ?_)
  refine goes_ Tryz.func92 (by kernel_rfl) rfl #[.agg #[.int .i64 a1_0, .int .i64 a1_1], .agg #[.int .i64 ((rd_T98 l0 (ji6)).f0), .int .i64 ((rd_T98 l0 (ji6)).f1)]] (by rfl) rfl rfl (by (try simp only [List.map_toArray, List.map_cons, List.map_nil]); first | done | (simp only [hji6]; rfl) | rfl | (simp only [List.length_drop, List.length_take]; rfl)) ?_
  with_reducible refine (spec_l08Less.calls a1_0 a1_1 ((rd_T98 l0 (ji6)).f0) ((rd_T98 l0 (ji6)).f1) false _ A9.out).mono ?_
  rintro e w15 ⟨rfl, hb⟩
  have HS2_ := (hb.cell (World.block_lt_of_cell? _ _ (hHeld.2.2.1))).trans (hHeld.2.2.1)
  have HS3_ := (hb.cell (World.block_lt_of_cell? _ _ (hHeld.2.2.2))).trans (hHeld.2.2.2)
  refine ⟨_, rfl, ?_⟩
  replace HO_0 := rb_ HO_0 hb
  replace BK524 := kb_ BK524 hb
  replace HK := Aside0.mk (Kept.below (S := (fun k_ => P0_ k_)) (by repeat (first | (with_reducible first | exact HK.out | apply Kept.alloc | apply Kept.drewN | apply Kept.drew | refine Kept.setCell ?_ (.inr GW524.out) _) | exact HK.out)) hb)
  replace HB := hs_ HB hb
  (try clear hb)
  (try clear hk)
  refine hK.out _ _ ⟨(blk_cell BK524.out 0).trans rfl, (blk_cell BK524.out 1).trans rfl, HS2_, HS3_⟩ (fun hHeld => ?_)
  clear hK K
  refine norm_ (a' := ?_) ?_ ?_
  rotate_left
  ·show Act.put _ (some 18) _ = _
   simp only [Act.put, List.setIfInBounds_toArray, List.set_cons_zero, List.set_cons_succ, i64_w, i32_w]
   rfl
  refine pu_ 10 19 (bt_ 11 2047) HT_ ?_
  refine done_ (done_of HT_.out (by kernel_rfl)) ?_
  try go_wp2
  replace HO_0 := Aside0.mk (Kd.R_drew HO_0.out)
  replace BK524 := Aside0.mk (blk_drew BK524.out)
  replace HK := Aside0.mk (Kept.drew HK.out)
  replace HB := Aside0.mk (below_drew1 HB.out)
  have p527 : 0 ≤ ((ji6) : Int) := of_decide_eq_true dg_
  have q527 : (ji6) < (l0.length : Int) := of_decide_eq_true dg_
  obtain ⟨ad527, e527, hx527_0, hx527_1⟩ := at_T98 (Kd.R_reads' HO_0.out).2.2 (ji6) p527 q527
  obtain rfl : ad525 = ad527 := (by injection e527)
  replace p527 := eq_true p527
  replace q527 := eq_true q527
  go_region_held3 (fun w' => w'.cell? ⟨gb524, 0, none⟩ = some (.int .i64 a1_0) ∧ w'.cell? ⟨gb524, 1, none⟩ = some (.int .i64 a1_1) ∧ w'.cell? (ad525.add (((ji6)).toNat * 2)) = some (.int .i64 ((rd_T98 l0 (ji6)).f0)) ∧ w'.cell? ⟨(ad525.add (((ji6)).toNat * 2)).block, (ad525.add (((ji6)).toNat * 2)).off + 1, none⟩ = some (.int .i64 ((rd_T98 l0 (ji6)).f1))) (first | exact ⟨(blk_cell BK524.out 0).trans rfl, (blk_cell BK524.out 1).trans rfl, hx527_0, hx527_1⟩) (first | fail)
  try go_wp2
  go_ret
  exact ⟨_, by first | rfl | (simp [errW_none, errW_some] <;> rfl) | (simp only [← hji6]; first | rfl | (simp [errW_none, errW_some] <;> rfl)) | (simp [*, errW_none, errW_some] <;> rfl), by (with_reducible repeat (first | apply Kd.R_alloc | apply Kd.R_drewN | apply Kd.R_drew)); exact Kd.R_mono HO_0.out (fun _ hk => hk.1), bb_ HB.out, by repeat (first | (with_reducible first | exact HK.out | apply Kept.alloc | apply Kept.drewN | apply Kept.drew | refine Kept.setCell ?_ (.inr GW524.out) _) | exact HK.out)⟩
 rw [if_neg c13] at H
 have c13b0 : (((rd_T98 l0 (ji6)).f0) == a1_0 && (((rd_T98 l0 (ji6)).f1) == a1_1)) = false := by simpa using c13
 (try (have c13b1 : decide (((rd_T98 l0 (ji6)).f0) = a1_0 && (((rd_T98 l0 (ji6)).f1) == a1_1)) = false := by simpa using c13))
 (try (have c13b2 : (((rd_T98 l0 (ji6)).f0) == a1_0 && (((rd_T98 l0 (ji6)).f1) == a1_1)) = false := by simpa using c13))
 (try (have c13b3 : ¬ (((rd_T98 l0 (ji6)).f0) = a1_0 && (((rd_T98 l0 (ji6)).f1) == a1_1)) := by simpa using c13))
 clear c13
 obtain ⟨y528, Ny528, H⟩ := bo_ H
 by_cases c17 : 0 ≤ x5_1
 rotate_left
 ·rw [if_neg c17] at H
  exact absurd H (by simp)
 rw [if_pos c17] at H
 have c17b0 := eq_true c17
 have c17b1 : decide (0 ≤ x5_1) = true := decide_eq_true c17
 clear c17
 by_cases c18 : x5_1 ≤ (l0.length : Int)
 rotate_left
 ·rw [if_neg c18] at H
  exact absurd H (by simp)
 rw [if_pos c18] at H
 have c18b0 := eq_true c18
 have c18b1 : decide (x5_1 ≤ (l0.length : Int)) = true := decide_eq_true c18
 clear c18
 obtain ⟨y531, Ny531, H⟩ := bo_ H
 by_cases c19 : y528.length + y531.length < 8796093022208
 rotate_left
 ·rw [if_neg c19] at H
  exact absurd H (by simp)
 rw [if_pos c19] at H
 have LMc19 := Aside0.mk c19
 clear c19
 obtain ⟨y535, Ny535, H⟩ := bo_ H
 by_cases c20 : y535.length < 8796093022208
 rotate_left
 ·rw [if_neg c20] at H
  exact absurd H (by simp)
 rw [if_pos c20] at H
 have LMc20 := Aside0.mk c20
 clear c20
 obtain ⟨y538, Ny538, H⟩ := bo_ H
 have c21b0 := eq_true (of_decide_eq_true dg_ : 0 ≤ x5_1)
 have c22b0 := eq_true (of_decide_eq_true dg_ : x5_1 ≤ (l0.length : Int))
 obtain ⟨y541, Ny541, H⟩ := bo_ H
 by_cases c23 : y538.length + y541.length < 8796093022208
 rotate_left
 ·rw [if_neg c23] at H
  exact absurd H (by simp)
 rw [if_pos c23] at H
 have LMc23 := Aside0.mk c23
 clear c23
 obtain ⟨y545, hy545⟩ : ∃ y_ : List (S98), y_ = (y538 ++ y541) := ⟨_, rfl⟩
 replace H : (some y545) = some r := by first | (rw [hy545]; with_reducible exact H) | (have H2_ := (Option.bind_some _ _).symm.trans H; rw [hy545]; with_reducible exact H2_) | (have H2_ := (Option.bind_some _ _).symm.trans H; with_reducible exact H2_) | with_reducible exact H | (rw [hy545]; exact H) | exact H
 have Ny545 := Aside0.mk hy545
 clear hy545
 obtain rfl := Option.some.inj H
 try go_wp2
 replace HO_0 := Aside0.mk (Kd.R_drew HO_0.out)
 replace BK524 := Aside0.mk (blk_drew BK524.out)
 replace HK := Aside0.mk (Kept.drew HK.out)
 replace HB := Aside0.mk (below_drew1 HB.out)
 have p525 : 0 ≤ ((ji6) : Int) := of_decide_eq_true dg_
 have q525 : (ji6) < (l0.length : Int) := of_decide_eq_true dg_
 obtain ⟨ad525, e525, hx525_0, hx525_1⟩ := at_T98 (Kd.R_reads' HO_0.out).2.2 (ji6) p525 q525
 cases e525
 replace p525 := eq_true p525
 replace q525 := eq_true q525
 refine start_ (n := 11) (S := fun w' => w'.cell? ⟨gb524, 0, none⟩ = some (.int .i64 a1_0) ∧ w'.cell? ⟨gb524, 1, none⟩ = some (.int .i64 a1_1) ∧ w'.cell? (ad525.add (((ji6)).toNat * 2)) = some (.int .i64 ((rd_T98 l0 (ji6)).f0)) ∧ w'.cell? ⟨(ad525.add (((ji6)).toNat * 2)).block, (ad525.add (((ji6)).toNat * 2)).off + 1, none⟩ = some (.int .i64 ((rd_T98 l0 (ji6)).f1))) (ds := []) #[false, false, false, false, false, false, false, false, false, false, false] (by kernel_rfl) rfl rfl ⟨(blk_cell BK524.out 0).trans rfl, (blk_cell BK524.out 1).trans rfl, hx525_0, hx525_1⟩ (fun hHeld => ?_); refine with_tabW spec_l08Put.tab2 spec_l08Put.bits2 (fun HT_ HW_ => ?_)
 generalize wr.drew = w24 at HO_0 BK524 HK HB hx525_0 hx525_1 hHeld ⊢
 refine pu_ 0 9 (bt_ 11 1) HT_ ?_
 refine pu_ 1 10 (bt_ 11 3) HT_ ?_
 refine pu_ 2 11 (bt_ 11 7) HT_ ?_
 refine pu_ 4 13 (bt_ 11 23) HT_ ?_
 refine pu_ 5 14 (bt_ 11 55) HT_ ?_
 refine pu_ 6 15 (bt_ 11 119) HT_ ?_
 refine pu_ 7 16 (bt_ 11 247) HT_ ?_
 refine take_ (i := 3) (N := some 12) (v := ?_) (a' := ?_) (bt_ 11 255) rfl rfl (take_ofW HT_.out HW_.out (by kernel_rfl)) (fun _ _ _ h => h) (Or.inl ⟨by rfl, ?_⟩) hHeld ?_ ?_
 rotate_left
 ·rintro w' ⟨s0, s1, s2, s3⟩
  go_simp
  with_reducible rfl
 rotate_left
 ·simp only [Act.put, List.setIfInBounds_toArray, List.set_cons_zero, List.set_cons_succ, i64_w, i32_w]
  rfl
 refine take_ (i := 8) (N := some 17) (v := ?_) (a' := ?_) (bt_ 11 511) rfl rfl (take_ofW HT_.out HW_.out (by kernel_rfl)) (fun _ _ _ h => h) (Or.inl ⟨by rfl, ?_⟩) hHeld ?_ ?_
 rotate_left
 ·rintro w' ⟨s0, s1, s2, s3⟩
  go_simp
  with_reducible rfl
 rotate_left
 ·simp only [Act.put, List.setIfInBounds_toArray, List.set_cons_zero, List.set_cons_succ, i64_w, i32_w]
  rfl
 refine one_ (i := 9) (N := some 18) (bt_ 11 1023) rfl rfl (one_of HT_.out (by kernel_rfl)) (by decide) (fun K hK => ?_)
 refine goes_ Tryz.func92 (by kernel_rfl) rfl #[.agg #[.int .i64 a1_0, .int .i64 a1_1], .agg #[.int .i64 ((rd_T98 l0 (ji6)).f0), .int .i64 ((rd_T98 l0 (ji6)).f1)]] (by rfl) rfl rfl (by (try simp only [List.map_toArray, List.map_cons, List.map_nil]); first | done | (simp only [hji6]; rfl) | rfl | (simp only [List.length_drop, List.length_take]; rfl)) ?_
 with_reducible refine (spec_l08Less.calls a1_0 a1_1 ((rd_T98 l0 (ji6)).f0) ((rd_T98 l0 (ji6)).f1) false _ A9.out).mono ?_
 rintro e w25 ⟨rfl, hb⟩
 have HS2_ := (hb.cell (World.block_lt_of_cell? _ _ (hHeld.2.2.1))).trans (hHeld.2.2.1)
 have HS3_ := (hb.cell (World.block_lt_of_cell? _ _ (hHeld.2.2.2))).trans (hHeld.2.2.2)
 refine ⟨_, rfl, ?_⟩
 replace HO_0 := rb_ HO_0 hb
 replace BK524 := kb_ BK524 hb
 replace HK := Aside0.mk (Kept.below (S := (fun k_ => P0_ k_)) (by repeat (first | (with_reducible first | exact HK.out | apply Kept.alloc | apply Kept.drewN | apply Kept.drew | refine Kept.setCell ?_ (.inr GW524.out) _) | exact HK.out)) hb)
 replace HB := hs_ HB hb
 (try clear hb)
 (try clear hk)
 refine hK.out _ _ ⟨(blk_cell BK524.out 0).trans rfl, (blk_cell BK524.out 1).trans rfl, HS2_, HS3_⟩ (fun hHeld => ?_)
 clear hK K
 refine norm_ (a' := ?_) ?_ ?_
 rotate_left
 ·show Act.put _ (some 18) _ = _
  simp only [Act.put, List.setIfInBounds_toArray, List.set_cons_zero, List.set_cons_succ, i64_w, i32_w]
  rfl
 refine pu_ 10 19 (bt_ 11 2047) HT_ ?_
 refine done_ (done_of HT_.out (by kernel_rfl)) ?_
 try go_wp2
 replace HO_0 := Aside0.mk (Kd.R_drew HO_0.out)
 replace BK524 := Aside0.mk (blk_drew BK524.out)
 replace HK := Aside0.mk (Kept.drew HK.out)
 replace HB := Aside0.mk (below_drew1 HB.out)
 have p527 : 0 ≤ ((ji6) : Int) := of_decide_eq_true dg_
 have q527 : (ji6) < (l0.length : Int) := of_decide_eq_true dg_
 obtain ⟨ad527, e527, hx527_0, hx527_1⟩ := at_T98 (Kd.R_reads' HO_0.out).2.2 (ji6) p527 q527
 obtain rfl : ad525 = ad527 := (by injection e527)
 replace p527 := eq_true p527
 replace q527 := eq_true q527
 go_region_held3 (fun w' => w'.cell? ⟨gb524, 0, none⟩ = some (.int .i64 a1_0) ∧ w'.cell? ⟨gb524, 1, none⟩ = some (.int .i64 a1_1) ∧ w'.cell? (ad525.add (((ji6)).toNat * 2)) = some (.int .i64 ((rd_T98 l0 (ji6)).f0)) ∧ w'.cell? ⟨(ad525.add (((ji6)).toNat * 2)).block, (ad525.add (((ji6)).toNat * 2)).off + 1, none⟩ = some (.int .i64 ((rd_T98 l0 (ji6)).f1))) (first | exact ⟨(blk_cell BK524.out 0).trans rfl, (blk_cell BK524.out 1).trans rfl, hx527_0, hx527_1⟩) (first | fail)
 try go_wp2_with (first | ((with_reducible refine gate_dst (N := 34) rfl ?_); refine Kd.R_lit k98 _ 98 ?hg (N := 34) ?hd (xs := ([] : List (S98))) (inner := []) (ok := fun _ => True) (okp := fun _ => True) ?hr ?hp (fun _ hk => hk) trivial (Below.refl _ _) (Nat.le_refl _) (by simp) ?_; (case hd => rfl); (case hg => rfl); (case hr => first | (go_simp; done) | (go_simp; rfl)); (case hp => exact (Reps.none _ _)); intro v529 w27 ho28 hb hg_ hnew_; clear hg_ hnew_; (first | rw [← Ny528.out] at ho28 | (simp only [Int.reduceToNat] at ho28; rw [← Ny528.out] at ho28)); have HO530 := Aside0.mk (Kd.R_lower (Kd.R_newB (Kd.R_new' (Kd.R_newM (M := fun k_ => (P0_ k_ ∨ w.heap.size ≤ k_)) ho28 (by first | exact HK.out.1 | exact (show Kept w _ (fun k_ => P0_ k_) from by repeat (first | (with_reducible first | exact HK.out | apply Kept.alloc | apply Kept.drewN | apply Kept.drew | refine Kept.setCell ?_ (.inr GW524.out) _) | exact HK.out)).1) (fun k_ h_ => .inr h_)) (rl_ HO_0.out)) (g := gb524) (o := .cells #[.int .i64 a1_0, .int .i64 a1_1] 98 (0, 0)) (by (with_reducible repeat (first | refine blk_drewN ?_ _ | refine blk_drew ?_ | refine blk_alloc ?_ _)); exact BK524.out)) (bz_ HB.out)); replace HO_0 := re_ HO_0 ho28 hb; replace BK524 := kb_ BK524 hb; replace HK := Aside0.mk (Kept.below (S := (fun k_ => P0_ k_)) (by repeat (first | (with_reducible first | exact HK.out | apply Kept.alloc | apply Kept.drewN | apply Kept.drew | refine Kept.setCell ?_ (.inr GW524.out) _) | exact HK.out)) hb); replace HB := hs_ HB hb; clear hb ho28; have q29 : (x5_1 : Int) ≤ ((l0.length : Int) : Int) := of_decide_eq_true dg_; obtain ⟨i029, hi029, _, hsz29, _⟩ := info_parts info98; have hroom29 : l0.length ≤ co4 := (Kd.R_reads' HO_0.out).2.1; have hC29 : Kd.C k98 _ (some ad525) l0.length l0 := (Kd.R_reads' HO_0.out).2.2; have hcut29 := cut_to (P := Tryz.prog) 62 98 .i64 Tryz.underlying62 hi029 (some ad525) l0.length co4 x5_1 (of_decide_eq_true dg_) q29 hroom29; have hr29 := Kd.C_take (m := (x5_1 : Int).toNat) hC29 (by omega); have hy29 : y531.length = (x5_1 : Int).toNat := (by rw [Ny531.out, List.length_take]; omega); rw [← Ny531.out] at hr29; rw [← hy29] at hcut29; have HR534 := Aside0.mk hr29; have HC534 := Aside0.mk (show y531.length ≤ co4 from by omega); clear hr29 hC29 hroom29 hi029 hsz29; have KY29 := Aside0.mk hy29; clear hy29; have KL29 := Aside0.mk (show (x5_1 : Int).toNat ≤ l0.length from by omega); replace q29 := eq_true q29) | ((with_reducible refine gate_builtin (b := .append) (xs := #[.tmp 34, .tmp 37]) rfl ?_); at_builtin; refine Kd.R_append_rows k98 (w0 := w0) w0.heap.size rfl (.tmp 34) (.tmp 37) 62 98 (.agg #[(.int .i64 0), (.int .i64 0)]) 16 rfl Tryz.underlying62 info98 rfl (by decide) (by omega) v529 y528 y531 _ _ _ (fun k_ => (P0_ k_ ∨ w.heap.size ≤ k_) ∧ some k_ ≠ (.slice (some ad525) l0.length co4 : Value).ownBlock ∧ k_ ≠ gb524) (fun _ => False) rfl rfl ?aO ?aR (fun _ _ h => h) (fun _ h => h.elim) ?aF ?aB ?aS ?aL ?_; (case aR => repeat (first | exact (by repeat (first | (with_reducible exact HR534.out) | (with_reducible refine Kd.C_alloc ?_ _) | (with_reducible refine Kd.C_drewN ?_ _) | (with_reducible refine Kd.C_drew ?_) | exact HR534.out)) | (with_reducible refine Kd.C_alloc ?_ _) | (with_reducible refine Kd.C_drewN ?_ _) | (with_reducible refine Kd.C_drew ?_))); (case aB => exact (by repeat (first | (with_reducible first | exact HB.out | apply below_alloc | apply pw_below_drewN | apply below_drew1 | refine below_set ?_ GE524.out) | exact HB.out))); (case aF => exact (fun k_ hk => ⟨(.inr (Nat.le_trans (by first | exact HK.out.1 | exact (show Kept w _ (fun k_ => P0_ k_) from by repeat (first | (with_reducible first | exact HK.out | apply Kept.alloc | apply Kept.drewN | apply Kept.drew | refine Kept.setCell ?_ (.inr GW524.out) _) | exact HK.out)).1) hk)), Kd.fresh' (rl_ HO_0.out) k_ hk, Kd.freshB (g := gb524) (o := .cells #[.int .i64 a1_0, .int .i64 a1_1] 98 (0, 0)) (by (with_reducible repeat (first | refine blk_drewN ?_ _ | refine blk_drew ?_ | refine blk_alloc ?_ _)); exact BK524.out) k_ hk⟩)); (case aO => exact (by (with_reducible repeat (first | apply Kd.R_alloc | apply Kd.R_drewN | apply Kd.R_drew)); exact Kd.R_mono HO530.out (fun _ hk => ⟨hk.1.1.1, ⟨hk.1.2, hk.2⟩⟩))); (case aS => exact (bz_ HB.out)); (case aL => have := LMc19.out; omega); intro v536 w30 ho hb hg hat; rw [← Ny535.out] at ho; have n0_ := Aside0.mk (Kd.R_after (ok := (fun k_ => (P0_ k_ ∨ w.heap.size ≤ k_) ∧ k_ ≠ gb524)) (ra_ HO_0.out) hg hat); have n1_ := Aside0.mk (blk_grown (g := gb524) (o := .cells #[.int .i64 a1_0, .int .i64 a1_1] 98 (0, 0)) (by (with_reducible repeat (first | refine blk_drewN ?_ _ | refine blk_drew ?_ | refine blk_alloc ?_ _)); exact BK524.out) hg (Kd.R_away HO530.out (fun _ hk => hk.2))); have n2_ := Aside0.mk (hb); have n3_ := Aside0.mk (Kept.of_grown (S := (fun k_ => P0_ k_)) hg (by repeat (first | (with_reducible first | exact HK.out | apply Kept.alloc | apply Kept.drewN | apply Kept.drew | refine Kept.setCell ?_ (.inr GW524.out) _) | exact HK.out)) (fun k_ e_ => (HO530.out.1 k_ e_).1.1.1)); have n4_ := Aside0.mk ((show Kd.C k98 w30 (some ad525) y531.length y531 from by rw [Ny531.out]; exact Kd.C_take (m := (x5_1 : Int).toNat) ((Kd.R_reads' (Kd.R_after (ok := (fun k_ => (P0_ k_ ∨ w.heap.size ≤ k_) ∧ k_ ≠ gb524)) (ra_ HO_0.out) hg hat)).2.2) KL29.out)); have n5_ := Aside0.mk (ho); clear HO_0; clear BK524; clear HB; clear HK; clear HR534; clear HO530; have HO_0 := n0_; have BK524 := n1_; have HB := n2_; have HK := n3_; have HR534 := n4_; have HO537 := n5_; clear n0_ n1_ n2_ n3_ n4_ n5_; clear ho hb hg hat; obtain ⟨hcz31_0, hcz31_1, hfz31_0, hfz31_1⟩ := cz2_ BK524.out) | ((with_reducible refine gate_builtin (b := .append) (xs := #[.tmp 39, .tmp 41]) rfl ?_); at_builtin; refine Kd.R_append k98 (w0 := w0) w0.heap.size rfl (.tmp 39) (.tmp 41) 62 98 (.agg #[(.int .i64 0), (.int .i64 0)]) 16 rfl Tryz.underlying62 info98 rfl (by decide) (by omega) v536 y535 (⟨a1_0, a1_1⟩ : S98) [.int .i64 a1_0, .int .i64 a1_1] (fun k_ => (P0_ k_ ∨ w.heap.size ≤ k_) ∧ some k_ ≠ (.slice (some ad525) l0.length co4 : Value).ownBlock ∧ k_ ≠ gb524) (fun _ => False) rfl rfl ?aP (fun _ hk => hk.elim) ?aF ?aO ?aB ?aS ?aL ?_; (case aP => exact k98_mkM _ _ _ (⟨a1_0, a1_1⟩ : S98)); (case aB => exact (by repeat (first | (with_reducible first | exact HB.out | apply below_alloc | apply pw_below_drewN | apply below_drew1 | refine below_set ?_ GE524.out) | exact HB.out))); (case aF => exact (fun k_ hk => ⟨(.inr (Nat.le_trans (by first | exact HK.out.1 | exact (show Kept w _ (fun k_ => P0_ k_) from by repeat (first | (with_reducible first | exact HK.out | apply Kept.alloc | apply Kept.drewN | apply Kept.drew | refine Kept.setCell ?_ (.inr GW524.out) _) | exact HK.out)).1) hk)), Kd.fresh' (rl_ HO_0.out) k_ hk, Kd.freshB (g := gb524) (o := .cells #[.int .i64 a1_0, .int .i64 a1_1] 98 (0, 0)) (by (with_reducible repeat (first | refine blk_drewN ?_ _ | refine blk_drew ?_ | refine blk_alloc ?_ _)); exact BK524.out) k_ hk⟩)); (case aO => exact (ra_ HO537.out)); (case aS => exact (bz_ HB.out)); (case aL => have := LMc20.out; omega); intro v539 w32 ho hb hg hat; rw [← Ny538.out] at ho; have n0_ := Aside0.mk (Kd.R_after (ok := (fun k_ => (P0_ k_ ∨ w.heap.size ≤ k_) ∧ k_ ≠ gb524)) (ra_ HO_0.out) hg hat); have n1_ := Aside0.mk (blk_grown (g := gb524) (o := .cells #[.int .i64 a1_0, .int .i64 a1_1] 98 (0, 0)) (by (with_reducible repeat (first | refine blk_drewN ?_ _ | refine blk_drew ?_ | refine blk_alloc ?_ _)); exact BK524.out) hg (Kd.R_away HO537.out (fun _ hk => hk.2.2))); have n2_ := Aside0.mk (hb); have n3_ := Aside0.mk (Kept.of_grown (S := (fun k_ => P0_ k_)) hg (by repeat (first | (with_reducible first | exact HK.out | apply Kept.alloc | apply Kept.drewN | apply Kept.drew | refine Kept.setCell ?_ (.inr GW524.out) _) | exact HK.out)) (fun k_ e_ => (HO537.out.1 k_ e_).1)); have n4_ := Aside0.mk ((show Kd.C k98 w32 (some ad525) y531.length y531 from by rw [Ny531.out]; exact Kd.C_take (m := (x5_1 : Int).toNat) ((Kd.R_reads' (Kd.R_after (ok := (fun k_ => (P0_ k_ ∨ w.heap.size ≤ k_) ∧ k_ ≠ gb524)) (ra_ HO_0.out) hg hat)).2.2) KL29.out)); have n5_ := Aside0.mk (ho); clear HO_0; clear BK524; clear HB; clear HK; clear HR534; clear HO537; have HO_0 := n0_; have BK524 := n1_; have HB := n2_; have HK := n3_; have HR534 := n4_; have HO540 := n5_; clear n0_ n1_ n2_ n3_ n4_ n5_; clear ho hb hg hat; have q33 : (x5_1 : Int) ≤ ((l0.length : Int) : Int) := of_decide_eq_true dg_; obtain ⟨i033, hi033, _, hsz33, _⟩ := info_parts info98; have hroom33 : l0.length ≤ co4 := (Kd.R_reads' HO_0.out).2.1; have hC33 : Kd.C k98 _ (some ad525) l0.length l0 := (Kd.R_reads' HO_0.out).2.2; have q033 : (0 : Int) ≤ (x5_1 : Int) := of_decide_eq_true dg_; have hcut33 := cut_from (P := Tryz.prog) 62 98 .i64 Tryz.underlying62 hi033 2 hsz33 (some ad525) l0.length co4 x5_1 q033 q33; have hr33 := Kd.C_drop (m := (x5_1 : Int).toNat) (c := co4) hC33 (by omega) hroom33; obtain ⟨A33, hA33⟩ : ∃ A1, A1 = (if co4 = (x5_1 : Int).toNat then (some ad525) else ((some ad525) : Option Addr).map (·.add ((x5_1 : Int).toNat * 2))) := ⟨_, rfl⟩; obtain ⟨c33, hc33⟩ : ∃ c1, c1 = co4 - (x5_1 : Int).toNat := ⟨_, rfl⟩; have hy33 : y541.length = l0.length - (x5_1 : Int).toNat := (by rw [Ny541.out, List.length_drop] <;> omega); rw [show (l0).drop (x5_1 : Int).toNat = y541 from Ny541.out.symm] at hr33; replace hr33 : Kd.C k98 _ A33 y541.length y541 := (by rw [hA33]; exact hr33); rw [← hy33, ← hA33, ← hc33] at hcut33; have HR544 := Aside0.mk hr33; have HC544 := Aside0.mk (show y541.length ≤ c33 from by rw [hy33, hc33]; exact Nat.sub_le_sub_right hroom33 _); clear hr33 hC33 hroom33 hi033 hsz33 hc33; have KY33 := Aside0.mk hy33; have KA33 := Aside0.mk hA33; clear hy33 hA33; have KL33 := Aside0.mk (show (x5_1 : Int).toNat ≤ l0.length from by omega); replace q33 := eq_true q33) | ((with_reducible refine gate_builtin (b := .append) (xs := #[.tmp 43, .tmp 46]) rfl ?_); at_builtin; refine Kd.R_append_rows k98 (w0 := w0) w0.heap.size rfl (.tmp 43) (.tmp 46) 62 98 (.agg #[(.int .i64 0), (.int .i64 0)]) 16 rfl Tryz.underlying62 info98 rfl (by decide) (by omega) v539 y538 y541 _ _ _ (fun k_ => (P0_ k_ ∨ w.heap.size ≤ k_) ∧ some k_ ≠ (.slice (some ad525) l0.length co4 : Value).ownBlock ∧ k_ ≠ gb524) (fun _ => False) rfl rfl ?aO ?aR (fun _ _ h => h) (fun _ h => h.elim) ?aF ?aB ?aS ?aL ?_; (case aR => repeat (first | exact (by repeat (first | (with_reducible exact HR544.out) | (with_reducible refine Kd.C_alloc ?_ _) | (with_reducible refine Kd.C_drewN ?_ _) | (with_reducible refine Kd.C_drew ?_) | exact HR544.out)) | (with_reducible refine Kd.C_alloc ?_ _) | (with_reducible refine Kd.C_drewN ?_ _) | (with_reducible refine Kd.C_drew ?_))); (case aB => exact (by repeat (first | (with_reducible first | exact HB.out | apply below_alloc | apply pw_below_drewN | apply below_drew1 | refine below_set ?_ GE524.out) | exact HB.out))); (case aF => exact (fun k_ hk => ⟨(.inr (Nat.le_trans (by first | exact HK.out.1 | exact (show Kept w _ (fun k_ => P0_ k_) from by repeat (first | (with_reducible first | exact HK.out | apply Kept.alloc | apply Kept.drewN | apply Kept.drew | refine Kept.setCell ?_ (.inr GW524.out) _) | exact HK.out)).1) hk)), Kd.fresh' (rl_ HO_0.out) k_ hk, Kd.freshB (g := gb524) (o := .cells #[.int .i64 a1_0, .int .i64 a1_1] 98 (0, 0)) (by (with_reducible repeat (first | refine blk_drewN ?_ _ | refine blk_drew ?_ | refine blk_alloc ?_ _)); exact BK524.out) k_ hk⟩)); (case aO => exact (ra_ HO540.out)); (case aS => exact (bz_ HB.out)); (case aL => have := LMc23.out; omega); intro v546 w34 ho hb hg hat; rw [← Ny545.out] at ho; have n0_ := Aside0.mk (Kd.R_after (ok := (fun k_ => (P0_ k_ ∨ w.heap.size ≤ k_) ∧ k_ ≠ gb524)) (ra_ HO_0.out) hg hat); have n1_ := Aside0.mk (blk_grown (g := gb524) (o := .cells #[.int .i64 a1_0, .int .i64 a1_1] 98 (0, 0)) (by (with_reducible repeat (first | refine blk_drewN ?_ _ | refine blk_drew ?_ | refine blk_alloc ?_ _)); exact BK524.out) hg (Kd.R_away HO540.out (fun _ hk => hk.2.2))); have n2_ := Aside0.mk (hb); have n3_ := Aside0.mk (Kept.of_grown (S := (fun k_ => P0_ k_)) hg (by repeat (first | (with_reducible first | exact HK.out | apply Kept.alloc | apply Kept.drewN | apply Kept.drew | refine Kept.setCell ?_ (.inr GW524.out) _) | exact HK.out)) (fun k_ e_ => (HO540.out.1 k_ e_).1)); have n4_ := Aside0.mk ((show Kd.C k98 w34 (some ad525) y531.length y531 from by rw [Ny531.out]; exact Kd.C_take (m := (x5_1 : Int).toNat) ((Kd.R_reads' (Kd.R_after (ok := (fun k_ => (P0_ k_ ∨ w.heap.size ≤ k_) ∧ k_ ≠ gb524)) (ra_ HO_0.out) hg hat)).2.2) KL29.out)); have n5_ := Aside0.mk ((show Kd.C k98 w34 A33 y541.length y541 from by rw [Ny541.out, KA33.out]; exact Kd.C_drop (m := (x5_1 : Int).toNat) (c := co4) ((Kd.R_reads' (Kd.R_after (ok := (fun k_ => (P0_ k_ ∨ w.heap.size ≤ k_) ∧ k_ ≠ gb524)) (ra_ HO_0.out) hg hat)).2.2) KL33.out ((Kd.R_reads' (Kd.R_after (ok := (fun k_ => (P0_ k_ ∨ w.heap.size ≤ k_) ∧ k_ ≠ gb524)) (ra_ HO_0.out) hg hat)).2.1))); have n6_ := Aside0.mk (ho); clear HO_0; clear BK524; clear HB; clear HK; clear HR534; clear HR544; clear HO540; have HO_0 := n0_; have BK524 := n1_; have HB := n2_; have HK := n3_; have HR534 := n4_; have HR544 := n5_; have HO547 := n6_; clear n0_ n1_ n2_ n3_ n4_ n5_ n6_; clear ho hb hg hat))
 go_ret
 exact ⟨_, by first | rfl | (simp [errW_none, errW_some] <;> rfl) | (simp only [← hji6]; first | rfl | (simp [errW_none, errW_some] <;> rfl)) | (simp [*, errW_none, errW_some] <;> rfl), by (with_reducible repeat (first | apply Kd.R_alloc | apply Kd.R_drewN | apply Kd.R_drew)); exact Kd.R_mono HO547.out (fun _ hk => hk.1), bb_ HB.out, by repeat (first | (with_reducible first | exact HK.out | apply Kept.alloc | apply Kept.drewN | apply Kept.drew | refine Kept.setCell ?_ (.inr GW524.out) _) | exact HK.out)⟩

end Go.Proofs.YtimdefbpoddoaaaGreat.PFnVerdicts
-- thin
