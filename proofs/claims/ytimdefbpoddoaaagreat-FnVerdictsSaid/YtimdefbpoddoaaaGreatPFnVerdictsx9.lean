/- The law's functions as plain functions, and their calls. No condition. -/
import Derived.Test.YtimdefbpoddoaaaGreatPFnVerdictsx0
import Derived.Test.YtimdefbpoddoaaaGreatPFnVerdictsx6
import Derived.Test.YtimdefbpoddoaaaGreatPFnVerdictsx8
namespace Go.Proofs.YtimdefbpoddoaaaGreat.PFnVerdicts
open Go.RowKit Go.Proofs.YtimdefbpoddoaaaGreatW.PrintWords Go.Proofs.YtimdefbpoddoaaaGreatW.PrintLast Go.Proofs.YtimdefbpoddoaaaGreatW.PrintMore
attribute [local go_sem] max2_int min2_int max_two min_two max_three min_three max_four min_four
set_option linter.unusedVariables false
set_option maxHeartbeats 8000000
set_option maxRecDepth 100000
set_option linter.unusedSimpArgs false

/-! ### impl_DependsOk: function 74 -/
def impl_DependsOk.l0 : Nat → List (S98) → List (S98) → Int → Int → Option (Bool)
 | 0, _, _, _, _ => none
 | k + 1, x0, x5, x6, x7 => if x7 < x6 then (if 0 ≤ x7 then (if x7 < (x5.length : Int) then ((impl_inside.f ((rd_T98 x5 x7).f0) 0 127).bind fun t362 => (if t362 = true then ((impl_inside.f ((rd_T98 x5 x7).f1) 0 127).bind fun t363 => (if t363 = true then (if x7 > 0 then (if 0 ≤ (wrap64 (x7 - 1)) then (if (wrap64 (x7 - 1)) < (x0.length : Int) then ((impl_compareDepends.f ((rd_T98 x0 (wrap64 (x7 - 1))).f0) ((rd_T98 x0 (wrap64 (x7 - 1))).f1) ((rd_T98 x5 x7).f0) ((rd_T98 x5 x7).f1)).bind fun t365 => (if t365 ≥ 0 then (some false) else (impl_DependsOk.l0 k x0 x5 x6 (wrap64 (x7 + 1))))) else (none)) else (none)) else (impl_DependsOk.l0 k x0 x5 x6 (wrap64 (x7 + 1)))) else (some false))) else (some false))) else (none)) else (none)) else (some true)
def impl_DependsOk.f (k : Nat) (l0 : List (S98)) : Option (Bool) := impl_DependsOk.l0 k l0 l0 (l0.length : Int) 0
theorem impl_DependsOk.mono_l : ∀ k, (∀ y0 y1 y2 y3, LeO (impl_DependsOk.l0 k y0 y1 y2 y3) (impl_DependsOk.l0 (k + 1) y0 y1 y2 y3))
 | 0 => fun _ _ _ _ r h => by simp [impl_DependsOk.l0] at h
 | k + 1 => by
  have ih0 := impl_DependsOk.mono_l k
  ·intro y0 y1 y2 y3
   unfold impl_DependsOk.l0
   repeat' (with_reducible first | exact ih0 .. | exact LeO.refl .. | exact LeO.none .. | refine LeO.ite ?_ ?_ | refine LeO.bind ?_ (fun _ => ?_))
theorem impl_DependsOk.mono : ∀ a0 k, LeO (impl_DependsOk.f k a0) (impl_DependsOk.f (k + 1) a0) := by
 intro a0 k
 have ih0 := impl_DependsOk.mono_l k
 unfold impl_DependsOk.f
 repeat' (with_reducible first | exact ih0 .. | exact LeO.refl .. | exact LeO.none .. | refine LeO.ite ?_ ?_ | refine LeO.bind ?_ (fun _ => ?_))
def impl_DependsOk.T4 : Bool × List (List Nat × List Nat) := (true, [([], []), ([0], [0]), ([1], [1]), ([2], [2]), ([3, 2], [3]), ([4], [4]), ([5, 4], [4, 5]), ([6, 4, 4], [4, 6]), ([7, 4], [4, 7]), ([4, 8], [4, 8]), ([9, 7], [9]), ([10], [10]), ([11, 10], [10, 11]), ([12, 10, 10], [10, 12]), ([13], [13]), ([13], [13]), ([15, 13], [13, 15]), ([14, 16, 13], [13, 14, 16]), ([17, 13], [13, 17]), ([13], [13]), ([18, 19, 13, 13], [13, 18, 19]), ([20, 13], [13, 20]), ([13, 21, 10], [10, 13, 21]), ([10, 22], [10, 22])])
def impl_DependsOk.B4 : List Nat := [0, 1, 3, 7, 15, 31, 63, 127, 255, 511, 1023, 2047, 4095, 8191, 16383, 16383, 49151, 131071, 262143, 16383, 1048575, 2097151, 4194303, 8388607]
theorem impl_DependsOk.tab4 : rtab .any (opsOf Tryz.f74 4) = impl_DependsOk.T4 := by kernel_rfl
theorem impl_DependsOk.bits4 : waitsOk impl_DependsOk.T4.2 impl_DependsOk.B4 = true := by kernel_rfl
theorem impl_DependsOk.calls (k : Nat) (A0 : Option Addr) (c0 : Nat) (l0 : List (S98)) (r : Bool) (w : World) (hr0 : Kd.C k98 w A0 l0.length l0) (hc0 : l0.length ≤ c0) (h : impl_DependsOk.f k l0 = some r) :
  Calls Tryz.prog 74 #[.slice A0 l0.length c0] w fun e w' => e = .returned (.bool r) ∧ Below w.heap.size w w' := by
 have hu98 := Tryz.underlying98
 have HR0 := Aside0.mk hr0
 have HC0 := Aside0.mk hc0
 clear hr0 hc0
 have HB := Aside0.mk (Below.refl w.heap.size w)
 have H : (impl_DependsOk.l0 k l0 l0 (l0.length : Int) 0) = some r := h
 clear h
 have H' := Aside0.mk H
 clear H
 go_enter Tryz.func74, Tryz.ntmps74
 go_wp2
 go_loopg [7] k (fun kq v7 w' => ∃ (x7_1 : Int), v7 = .int .i64 x7_1 ∧ Aside0 (impl_DependsOk.l0 kq l0 l0 (l0.length : Int) x7_1 = some r) ∧ Aside0 (kq ≤ k) ∧ Aside0 (Below w.heap.size w w'))
 case atStart => exact ⟨(0), ef_, H', ⟨Nat.le_refl _⟩, ⟨bb_ HB.out⟩⟩
 clear H'
 obtain ⟨x7_1, rfl, HA, HK1, HB⟩ := hrel
 obtain _ | k1 := gk
 ·exact absurd HA.out (by simp [impl_DependsOk.l0])
 have H := HA.out
 clear HA
 simp only [impl_DependsOk.l0] at H
 by_cases c2 : x7_1 < (l0.length : Int)
 rotate_left
 ·rw [if_neg c2] at H
  have c2b0 : decide (x7_1 < (l0.length : Int)) = false := decide_eq_false c2
  clear c2
  obtain rfl := Option.some.inj H
  go_wp2
  go_ret
  exact ⟨fin_, bb_ HB.out⟩
 rw [if_pos c2] at H
 have c2b0 : decide (x7_1 < (l0.length : Int)) = true := decide_eq_true c2
 clear c2
 by_cases c3 : 0 ≤ x7_1
 rotate_left
 ·rw [if_neg c3] at H
  exact absurd H (by simp)
 rw [if_pos c3] at H
 have c3b0 : decide (0 ≤ x7_1) = true := decide_eq_true c3
 clear c3
 by_cases c4 : x7_1 < (l0.length : Int)
 rotate_left
 ·rw [if_neg c4] at H
  exact absurd H (by simp)
 rw [if_pos c4] at H
 have c4b0 : decide (x7_1 < (l0.length : Int)) = true := decide_eq_true c4
 clear c4
 obtain ⟨t362, A5, H⟩ := bi_ H
 by_cases c6 : t362 = true
 rotate_left
 ·replace c6 := Bool.eq_false_iff.mpr c6
  subst c6
  rw [if_neg (show ¬ (false = true) by decide)] at H
  obtain rfl := Option.some.inj H
  have p360 : 0 ≤ (x7_1 : Int) := of_decide_eq_true dg_
  have q360 : x7_1 < (l0.length : Int) := of_decide_eq_true dg_
  obtain ⟨ad360, e360, hx360_0, hx360_1⟩ := at_T98 HR0.out x7_1 p360 q360
  cases e360
  replace hx360_0 := hc_ HB hx360_0
  replace hx360_1 := hc_ HB hx360_1
  replace p360 := eq_true p360
  replace q360 := eq_true q360
  try go_wp2_with (first | ((with_reducible refine gate_dst (N := 4) rfl ?_); refine box_event ?hg (N := 4) ?hd (cs := #[.int .i64 0, .int .i64 0]) (t := 98) ?hr ?_; (case hd => rfl); (case hg => rfl); (case hr => first | (go_simp; done) | (go_simp; rfl)); intro gb361 hg w33 hbox hb; have BK361 := Aside0.mk (hbox); have GW361 := gw_ hg HB; have GE361 := gw_ hg HB; replace HB := hs_ HB hb; clear hb hbox hg; obtain ⟨hcz34_0, hcz34_1, hfz34_0, hfz34_1⟩ := cz2_ BK361.out))
  have n0_ : Aside0 (((w33.setCell ⟨gb361, 0, none⟩ (.int .i64 ((rd_T98 l0 x7_1).f0))).setCell ⟨gb361, 1, none⟩ (.int .i64 ((rd_T98 l0 x7_1).f1))).heap[gb361]? = some (.cells #[.int .i64 ((rd_T98 l0 x7_1).f0), .int .i64 ((rd_T98 l0 x7_1).f1)] 98 (0, 0))) := ⟨by (with_reducible repeat (first | refine blk_drewN ?_ _ | refine blk_drew ?_ | refine blk_alloc ?_ _)); refine blk_put (cs := #[.int .i64 ((rd_T98 l0 x7_1).f0), .int .i64 0]) ?_ 1 _ rfl; (with_reducible repeat (first | refine blk_drewN ?_ _ | refine blk_drew ?_ | refine blk_alloc ?_ _)); refine blk_put (cs := #[.int .i64 0, .int .i64 0]) ?_ 0 _ rfl; (with_reducible repeat (first | refine blk_drewN ?_ _ | refine blk_drew ?_ | refine blk_alloc ?_ _)); exact BK361.out⟩
  have n1_ : Aside0 (Below w.heap.size w ((w33.setCell ⟨gb361, 0, none⟩ (.int .i64 ((rd_T98 l0 x7_1).f0))).setCell ⟨gb361, 1, none⟩ (.int .i64 ((rd_T98 l0 x7_1).f1)))) := ⟨bb_ HB.out⟩
  (try clear BK361)
  (try clear HB)
  generalize ((w33.setCell ⟨gb361, 0, none⟩ (.int .i64 ((rd_T98 l0 x7_1).f0))).setCell ⟨gb361, 1, none⟩ (.int .i64 ((rd_T98 l0 x7_1).f1))) = w35 at n0_ n1_ ⊢
  have BK361 := n0_
  have HB := n1_
  clear n0_ n1_
  replace BK361 := Aside0.mk (blk_drew BK361.out)
  replace HB := Aside0.mk (below_drew1 HB.out)
  refine start_ (n := 24) (S := fun w' => w'.cell? ⟨gb361, 0, none⟩ = some (.int .i64 ((rd_T98 l0 x7_1).f0)) ∧ w'.cell? ⟨gb361, 1, none⟩ = some (.int .i64 ((rd_T98 l0 x7_1).f1))) (ds := []) #[false, false, false, false, false, false, false, false, false, false, false, false, false, false, false, false, false, false, false, false, false, false, false, false] (by kernel_rfl) rfl rfl ⟨(blk_cell BK361.out 0).trans rfl, (blk_cell BK361.out 1).trans rfl⟩ (fun hHeld => ?_); refine with_tabW impl_DependsOk.tab4 impl_DependsOk.bits4 (fun HT_ HW_ => ?_)
  generalize w35.drew = w36 at BK361 HB hHeld ⊢
  refine pu_ 0 12 (bt_ 24 1) HT_ ?_
  refine take_ (i := 1) (N := some 13) (v := ?_) (a' := ?_) (bt_ 24 3) rfl rfl (take_ofW HT_.out HW_.out (by kernel_rfl)) (fun _ _ _ h => h) (Or.inl ⟨by rfl, ?_⟩) hHeld ?_ ?_
  rotate_left
  ·rintro w' ⟨s0, s1⟩
   go_simp
   with_reducible rfl
  rotate_left
  ·simp only [Act.put, List.setIfInBounds_toArray, List.set_cons_zero, List.set_cons_succ, i64_w, i32_w]
   rfl
  refine one_ (i := 2) (N := some 14) (bt_ 24 7) rfl rfl (one_of HT_.out (by kernel_rfl)) (by decide) (fun K hK => ?_)
  refine goes_ Tryz.func52 (by kernel_rfl) rfl #[.int .i64 ((rd_T98 l0 x7_1).f0), .int .i64 0, .int .i64 127] (by rfl) rfl rfl (by (try simp only [List.map_toArray, List.map_cons, List.map_nil]); first | done | rfl | (simp only [List.length_drop, List.length_take]; rfl)) ?_
  with_reducible refine (impl_inside.calls ((rd_T98 l0 x7_1).f0) 0 127 false _ A5.out).mono ?_
  rintro e w' ⟨rfl, ⟨nd, rfl⟩⟩
  refine ⟨_, rfl, ?_⟩
  refine hK.out _ _ ⟨(blk_cell BK361.out 0).trans rfl, (blk_cell BK361.out 1).trans rfl⟩ (fun hHeld => ?_)
  clear hK K
  refine norm_ (a' := ?_) ?_ ?_
  rotate_left
  ·show Act.put _ (some 14) _ = _
   simp only [Act.put, List.setIfInBounds_toArray, List.set_cons_zero, List.set_cons_succ, i64_w, i32_w]
   rfl
  refine pu_ 3 15 (bt_ 24 15) HT_ ?_
  refine pu_ 4 16 (bt_ 24 31) HT_ ?_
  refine un_ 5 17 (bt_ 24 63) HT_ ?_
  refine un_ 6 18 (bt_ 24 127) HT_ ?_
  refine un_ 7 19 (bt_ 24 255) HT_ ?_
  refine un_ 8 20 (bt_ 24 511) HT_ ?_
  refine pu_ 9 21 (bt_ 24 1023) HT_ ?_
  refine pu_ 10 22 (bt_ 24 2047) HT_ ?_
  refine un_ 11 23 (bt_ 24 4095) HT_ ?_
  refine un_ 12 24 (bt_ 24 8191) HT_ ?_
  refine un_ 13 25 (bt_ 24 16383) HT_ ?_
  refine un_ 14 26 (bt_ 24 32767) HT_ ?_
  refine un_ 15 27 (bt_ 24 65535) HT_ ?_
  refine un_ 16 28 (bt_ 24 131071) HT_ ?_
  refine un_ 17 29 (bt_ 24 262143) HT_ ?_
  refine un_ 18 30 (bt_ 24 524287) HT_ ?_
  refine un_ 19 31 (bt_ 24 1048575) HT_ ?_
  refine un_ 20 32 (bt_ 24 2097151) HT_ ?_
  refine un_ 21 33 (bt_ 24 4194303) HT_ ?_
  refine un_ 22 34 (bt_ 24 8388607) HT_ ?_
  refine pu_ 23 35 (bt_ 24 16777215) HT_ ?_
  refine done_ (done_of HT_.out (by kernel_rfl)) ?_
  try go_wp2
  go_ret
  exact ⟨fin_, bb_ HB.out⟩
 subst c6
 rw [if_pos rfl] at H
 obtain ⟨t363, A7, H⟩ := bi_ H
 by_cases c8 : t363 = true
 rotate_left
 ·replace c8 := Bool.eq_false_iff.mpr c8
  subst c8
  rw [if_neg (show ¬ (false = true) by decide)] at H
  obtain rfl := Option.some.inj H
  have p360 : 0 ≤ (x7_1 : Int) := of_decide_eq_true dg_
  have q360 : x7_1 < (l0.length : Int) := of_decide_eq_true dg_
  obtain ⟨ad360, e360, hx360_0, hx360_1⟩ := at_T98 HR0.out x7_1 p360 q360
  cases e360
  replace hx360_0 := hc_ HB hx360_0
  replace hx360_1 := hc_ HB hx360_1
  replace p360 := eq_true p360
  replace q360 := eq_true q360
  try go_wp2_with (first | ((with_reducible refine gate_dst (N := 4) rfl ?_); refine box_event ?hg (N := 4) ?hd (cs := #[.int .i64 0, .int .i64 0]) (t := 98) ?hr ?_; (case hd => rfl); (case hg => rfl); (case hr => first | (go_simp; done) | (go_simp; rfl)); intro gb361 hg w29 hbox hb; have BK361 := Aside0.mk (hbox); have GW361 := gw_ hg HB; have GE361 := gw_ hg HB; replace HB := hs_ HB hb; clear hb hbox hg; obtain ⟨hcz30_0, hcz30_1, hfz30_0, hfz30_1⟩ := cz2_ BK361.out))
  have n0_ : Aside0 (((w29.setCell ⟨gb361, 0, none⟩ (.int .i64 ((rd_T98 l0 x7_1).f0))).setCell ⟨gb361, 1, none⟩ (.int .i64 ((rd_T98 l0 x7_1).f1))).heap[gb361]? = some (.cells #[.int .i64 ((rd_T98 l0 x7_1).f0), .int .i64 ((rd_T98 l0 x7_1).f1)] 98 (0, 0))) := ⟨by (with_reducible repeat (first | refine blk_drewN ?_ _ | refine blk_drew ?_ | refine blk_alloc ?_ _)); refine blk_put (cs := #[.int .i64 ((rd_T98 l0 x7_1).f0), .int .i64 0]) ?_ 1 _ rfl; (with_reducible repeat (first | refine blk_drewN ?_ _ | refine blk_drew ?_ | refine blk_alloc ?_ _)); refine blk_put (cs := #[.int .i64 0, .int .i64 0]) ?_ 0 _ rfl; (with_reducible repeat (first | refine blk_drewN ?_ _ | refine blk_drew ?_ | refine blk_alloc ?_ _)); exact BK361.out⟩
  have n1_ : Aside0 (Below w.heap.size w ((w29.setCell ⟨gb361, 0, none⟩ (.int .i64 ((rd_T98 l0 x7_1).f0))).setCell ⟨gb361, 1, none⟩ (.int .i64 ((rd_T98 l0 x7_1).f1)))) := ⟨bb_ HB.out⟩
  (try clear BK361)
  (try clear HB)
  generalize ((w29.setCell ⟨gb361, 0, none⟩ (.int .i64 ((rd_T98 l0 x7_1).f0))).setCell ⟨gb361, 1, none⟩ (.int .i64 ((rd_T98 l0 x7_1).f1))) = w31 at n0_ n1_ ⊢
  have BK361 := n0_
  have HB := n1_
  clear n0_ n1_
  replace BK361 := Aside0.mk (blk_drew BK361.out)
  replace HB := Aside0.mk (below_drew1 HB.out)
  refine start_ (n := 24) (S := fun w' => w'.cell? ⟨gb361, 0, none⟩ = some (.int .i64 ((rd_T98 l0 x7_1).f0)) ∧ w'.cell? ⟨gb361, 1, none⟩ = some (.int .i64 ((rd_T98 l0 x7_1).f1))) (ds := []) #[false, false, false, false, false, false, false, false, false, false, false, false, false, false, false, false, false, false, false, false, false, false, false, false] (by kernel_rfl) rfl rfl ⟨(blk_cell BK361.out 0).trans rfl, (blk_cell BK361.out 1).trans rfl⟩ (fun hHeld => ?_); refine with_tabW impl_DependsOk.tab4 impl_DependsOk.bits4 (fun HT_ HW_ => ?_)
  generalize w31.drew = w32 at BK361 HB hHeld ⊢
  refine pu_ 0 12 (bt_ 24 1) HT_ ?_
  refine take_ (i := 1) (N := some 13) (v := ?_) (a' := ?_) (bt_ 24 3) rfl rfl (take_ofW HT_.out HW_.out (by kernel_rfl)) (fun _ _ _ h => h) (Or.inl ⟨by rfl, ?_⟩) hHeld ?_ ?_
  rotate_left
  ·rintro w' ⟨s0, s1⟩
   go_simp
   with_reducible rfl
  rotate_left
  ·simp only [Act.put, List.setIfInBounds_toArray, List.set_cons_zero, List.set_cons_succ, i64_w, i32_w]
   rfl
  refine one_ (i := 2) (N := some 14) (bt_ 24 7) rfl rfl (one_of HT_.out (by kernel_rfl)) (by decide) (fun K hK => ?_)
  refine goes_ Tryz.func52 (by kernel_rfl) rfl #[.int .i64 ((rd_T98 l0 x7_1).f0), .int .i64 0, .int .i64 127] (by rfl) rfl rfl (by (try simp only [List.map_toArray, List.map_cons, List.map_nil]); first | done | rfl | (simp only [List.length_drop, List.length_take]; rfl)) ?_
  with_reducible refine (impl_inside.calls ((rd_T98 l0 x7_1).f0) 0 127 true _ A5.out).mono ?_
  rintro e w' ⟨rfl, ⟨nd, rfl⟩⟩
  refine ⟨_, rfl, ?_⟩
  refine hK.out _ _ ⟨(blk_cell BK361.out 0).trans rfl, (blk_cell BK361.out 1).trans rfl⟩ (fun hHeld => ?_)
  clear hK K
  refine norm_ (a' := ?_) ?_ ?_
  rotate_left
  ·show Act.put _ (some 14) _ = _
   simp only [Act.put, List.setIfInBounds_toArray, List.set_cons_zero, List.set_cons_succ, i64_w, i32_w]
   rfl
  refine pu_ 3 15 (bt_ 24 15) HT_ ?_
  refine pu_ 4 16 (bt_ 24 31) HT_ ?_
  refine pu_ 5 17 (bt_ 24 63) HT_ ?_
  refine take_ (i := 6) (N := some 18) (v := ?_) (a' := ?_) (bt_ 24 127) rfl rfl (take_ofW HT_.out HW_.out (by kernel_rfl)) (fun _ _ _ h => h) (Or.inl ⟨by rfl, ?_⟩) hHeld ?_ ?_
  rotate_left
  ·rintro w' ⟨s0, s1⟩
   go_simp
   with_reducible rfl
  rotate_left
  ·simp only [Act.put, List.setIfInBounds_toArray, List.set_cons_zero, List.set_cons_succ, i64_w, i32_w]
   rfl
  refine one_ (i := 7) (N := some 19) (bt_ 24 255) rfl rfl (one_of HT_.out (by kernel_rfl)) (by decide) (fun K hK => ?_)
  refine goes_ Tryz.func52 (by kernel_rfl) rfl #[.int .i64 ((rd_T98 l0 x7_1).f1), .int .i64 0, .int .i64 127] (by rfl) rfl rfl (by (try simp only [List.map_toArray, List.map_cons, List.map_nil]); first | done | rfl | (simp only [List.length_drop, List.length_take]; rfl)) ?_
  with_reducible refine (impl_inside.calls ((rd_T98 l0 x7_1).f1) 0 127 false _ A7.out).mono ?_
  rintro e w' ⟨rfl, ⟨nd, rfl⟩⟩
  refine ⟨_, rfl, ?_⟩
  refine hK.out _ _ ⟨(blk_cell BK361.out 0).trans rfl, (blk_cell BK361.out 1).trans rfl⟩ (fun hHeld => ?_)
  clear hK K
  refine norm_ (a' := ?_) ?_ ?_
  rotate_left
  ·show Act.put _ (some 19) _ = _
   simp only [Act.put, List.setIfInBounds_toArray, List.set_cons_zero, List.set_cons_succ, i64_w, i32_w]
   rfl
  refine pu_ 8 20 (bt_ 24 511) HT_ ?_
  refine pu_ 9 21 (bt_ 24 1023) HT_ ?_
  refine pu_ 10 22 (bt_ 24 2047) HT_ ?_
  refine un_ 11 23 (bt_ 24 4095) HT_ ?_
  refine un_ 12 24 (bt_ 24 8191) HT_ ?_
  refine un_ 13 25 (bt_ 24 16383) HT_ ?_
  refine un_ 14 26 (bt_ 24 32767) HT_ ?_
  refine un_ 15 27 (bt_ 24 65535) HT_ ?_
  refine un_ 16 28 (bt_ 24 131071) HT_ ?_
  refine un_ 17 29 (bt_ 24 262143) HT_ ?_
  refine un_ 18 30 (bt_ 24 524287) HT_ ?_
  refine un_ 19 31 (bt_ 24 1048575) HT_ ?_
  refine un_ 20 32 (bt_ 24 2097151) HT_ ?_
  refine un_ 21 33 (bt_ 24 4194303) HT_ ?_
  refine un_ 22 34 (bt_ 24 8388607) HT_ ?_
  refine pu_ 23 35 (bt_ 24 16777215) HT_ ?_
  refine done_ (done_of HT_.out (by kernel_rfl)) ?_
  try go_wp2
  go_ret
  exact ⟨fin_, bb_ HB.out⟩
 subst c8
 rw [if_pos rfl] at H
 by_cases c9 : x7_1 > 0
 rotate_left
 ·rw [if_neg c9] at H
  have c9b0 : decide (0 < x7_1) = false := decide_eq_false c9
  clear c9
  have H' := Aside0.mk H
  clear H
  have p360 : 0 ≤ (x7_1 : Int) := of_decide_eq_true dg_
  have q360 : x7_1 < (l0.length : Int) := of_decide_eq_true dg_
  obtain ⟨ad360, e360, hx360_0, hx360_1⟩ := at_T98 HR0.out x7_1 p360 q360
  cases e360
  replace hx360_0 := hc_ HB hx360_0
  replace hx360_1 := hc_ HB hx360_1
  replace p360 := eq_true p360
  replace q360 := eq_true q360
  try go_wp2_with (first | ((with_reducible refine gate_dst (N := 4) rfl ?_); refine box_event ?hg (N := 4) ?hd (cs := #[.int .i64 0, .int .i64 0]) (t := 98) ?hr ?_; (case hd => rfl); (case hg => rfl); (case hr => first | (go_simp; done) | (go_simp; rfl)); intro gb361 hg w25 hbox hb; have BK361 := Aside0.mk (hbox); have GW361 := gw_ hg HB; have GE361 := gw_ hg HB; replace HB := hs_ HB hb; clear hb hbox hg; obtain ⟨hcz26_0, hcz26_1, hfz26_0, hfz26_1⟩ := cz2_ BK361.out))
  have n0_ : Aside0 (((w25.setCell ⟨gb361, 0, none⟩ (.int .i64 ((rd_T98 l0 x7_1).f0))).setCell ⟨gb361, 1, none⟩ (.int .i64 ((rd_T98 l0 x7_1).f1))).heap[gb361]? = some (.cells #[.int .i64 ((rd_T98 l0 x7_1).f0), .int .i64 ((rd_T98 l0 x7_1).f1)] 98 (0, 0))) := ⟨by (with_reducible repeat (first | refine blk_drewN ?_ _ | refine blk_drew ?_ | refine blk_alloc ?_ _)); refine blk_put (cs := #[.int .i64 ((rd_T98 l0 x7_1).f0), .int .i64 0]) ?_ 1 _ rfl; (with_reducible repeat (first | refine blk_drewN ?_ _ | refine blk_drew ?_ | refine blk_alloc ?_ _)); refine blk_put (cs := #[.int .i64 0, .int .i64 0]) ?_ 0 _ rfl; (with_reducible repeat (first | refine blk_drewN ?_ _ | refine blk_drew ?_ | refine blk_alloc ?_ _)); exact BK361.out⟩
  have n1_ : Aside0 (Below w.heap.size w ((w25.setCell ⟨gb361, 0, none⟩ (.int .i64 ((rd_T98 l0 x7_1).f0))).setCell ⟨gb361, 1, none⟩ (.int .i64 ((rd_T98 l0 x7_1).f1)))) := ⟨bb_ HB.out⟩
  (try clear BK361)
  (try clear HB)
  generalize ((w25.setCell ⟨gb361, 0, none⟩ (.int .i64 ((rd_T98 l0 x7_1).f0))).setCell ⟨gb361, 1, none⟩ (.int .i64 ((rd_T98 l0 x7_1).f1))) = w27 at n0_ n1_ ⊢
  have BK361 := n0_
  have HB := n1_
  clear n0_ n1_
  replace BK361 := Aside0.mk (blk_drew BK361.out)
  replace HB := Aside0.mk (below_drew1 HB.out)
  refine start_ (n := 24) (S := fun w' => w'.cell? ⟨gb361, 0, none⟩ = some (.int .i64 ((rd_T98 l0 x7_1).f0)) ∧ w'.cell? ⟨gb361, 1, none⟩ = some (.int .i64 ((rd_T98 l0 x7_1).f1))) (ds := []) #[false, false, false, false, false, false, false, false, false, false, false, false, false, false, false, false, false, false, false, false, false, false, false, false] (by kernel_rfl) rfl rfl ⟨(blk_cell BK361.out 0).trans rfl, (blk_cell BK361.out 1).trans rfl⟩ (fun hHeld => ?_); refine with_tabW impl_DependsOk.tab4 impl_DependsOk.bits4 (fun HT_ HW_ => ?_)
  generalize w27.drew = w28 at BK361 HB hHeld ⊢
  refine pu_ 0 12 (bt_ 24 1) HT_ ?_
  refine take_ (i := 1) (N := some 13) (v := ?_) (a' := ?_) (bt_ 24 3) rfl rfl (take_ofW HT_.out HW_.out (by kernel_rfl)) (fun _ _ _ h => h) (Or.inl ⟨by rfl, ?_⟩) hHeld ?_ ?_
  rotate_left
  ·rintro w' ⟨s0, s1⟩
   go_simp
   with_reducible rfl
  rotate_left
  ·simp only [Act.put, List.setIfInBounds_toArray, List.set_cons_zero, List.set_cons_succ, i64_w, i32_w]
   rfl
  refine one_ (i := 2) (N := some 14) (bt_ 24 7) rfl rfl (one_of HT_.out (by kernel_rfl)) (by decide) (fun K hK => ?_)
  refine goes_ Tryz.func52 (by kernel_rfl) rfl #[.int .i64 ((rd_T98 l0 x7_1).f0), .int .i64 0, .int .i64 127] (by rfl) rfl rfl (by (try simp only [List.map_toArray, List.map_cons, List.map_nil]); first | done | rfl | (simp only [List.length_drop, List.length_take]; rfl)) ?_
  with_reducible refine (impl_inside.calls ((rd_T98 l0 x7_1).f0) 0 127 true _ A5.out).mono ?_
  rintro e w' ⟨rfl, ⟨nd, rfl⟩⟩
  refine ⟨_, rfl, ?_⟩
  refine hK.out _ _ ⟨(blk_cell BK361.out 0).trans rfl, (blk_cell BK361.out 1).trans rfl⟩ (fun hHeld => ?_)
  clear hK K
  refine norm_ (a' := ?_) ?_ ?_
  rotate_left
  ·show Act.put _ (some 14) _ = _
   simp only [Act.put, List.setIfInBounds_toArray, List.set_cons_zero, List.set_cons_succ, i64_w, i32_w]
   rfl
  refine pu_ 3 15 (bt_ 24 15) HT_ ?_
  refine pu_ 4 16 (bt_ 24 31) HT_ ?_
  refine pu_ 5 17 (bt_ 24 63) HT_ ?_
  refine take_ (i := 6) (N := some 18) (v := ?_) (a' := ?_) (bt_ 24 127) rfl rfl (take_ofW HT_.out HW_.out (by kernel_rfl)) (fun _ _ _ h => h) (Or.inl ⟨by rfl, ?_⟩) hHeld ?_ ?_
  rotate_left
  ·rintro w' ⟨s0, s1⟩
   go_simp
   with_reducible rfl
  rotate_left
  ·simp only [Act.put, List.setIfInBounds_toArray, List.set_cons_zero, List.set_cons_succ, i64_w, i32_w]
   rfl
  refine one_ (i := 7) (N := some 19) (bt_ 24 255) rfl rfl (one_of HT_.out (by kernel_rfl)) (by decide) (fun K hK => ?_)
  refine goes_ Tryz.func52 (by kernel_rfl) rfl #[.int .i64 ((rd_T98 l0 x7_1).f1), .int .i64 0, .int .i64 127] (by rfl) rfl rfl (by (try simp only [List.map_toArray, List.map_cons, List.map_nil]); first | done | rfl | (simp only [List.length_drop, List.length_take]; rfl)) ?_
  with_reducible refine (impl_inside.calls ((rd_T98 l0 x7_1).f1) 0 127 true _ A7.out).mono ?_
  rintro e w' ⟨rfl, ⟨nd, rfl⟩⟩
  refine ⟨_, rfl, ?_⟩
  refine hK.out _ _ ⟨(blk_cell BK361.out 0).trans rfl, (blk_cell BK361.out 1).trans rfl⟩ (fun hHeld => ?_)
  clear hK K
  refine norm_ (a' := ?_) ?_ ?_
  rotate_left
  ·show Act.put _ (some 19) _ = _
   simp only [Act.put, List.setIfInBounds_toArray, List.set_cons_zero, List.set_cons_succ, i64_w, i32_w]
   rfl
  refine pu_ 8 20 (bt_ 24 511) HT_ ?_
  refine pu_ 9 21 (bt_ 24 1023) HT_ ?_
  refine pu_ 10 22 (bt_ 24 2047) HT_ ?_
  refine pu_ 11 23 (bt_ 24 4095) HT_ ?_
  refine pu_ 12 24 (bt_ 24 8191) HT_ ?_
  refine pu_ 13 25 (bt_ 24 16383) HT_ ?_
  refine un_ 14 26 (bt_ 24 32767) HT_ ?_
  refine un_ 15 27 (bt_ 24 65535) HT_ ?_
  refine un_ 16 28 (bt_ 24 131071) HT_ ?_
  refine un_ 17 29 (bt_ 24 262143) HT_ ?_
  refine un_ 18 30 (bt_ 24 524287) HT_ ?_
  refine un_ 19 31 (bt_ 24 1048575) HT_ ?_
  refine un_ 20 32 (bt_ 24 2097151) HT_ ?_
  refine un_ 21 33 (bt_ 24 4194303) HT_ ?_
  refine pu_ 22 34 (bt_ 24 8388607) HT_ ?_
  refine pu_ 23 35 (bt_ 24 16777215) HT_ ?_
  refine done_ (done_of HT_.out (by kernel_rfl)) ?_
  try go_wp2
  go_roundg k1
  case measure => have := HK1.out; omega
  case rel => exact ⟨(wrap64 (x7_1 + 1)), ef_, H', ⟨by have := HK1.out; omega⟩, ⟨bb_ HB.out⟩⟩
 rw [if_pos c9] at H
 have c9b0 : decide (0 < x7_1) = true := decide_eq_true c9
 clear c9
 obtain ⟨ji10, hji10⟩ : ∃ j_ : Int, (wrap64 (x7_1 - 1)) = j_ := ⟨_, rfl⟩
 replace H : (if 0 ≤ (ji10) then (if (ji10) < (l0.length : Int) then ((impl_compareDepends.f ((rd_T98 l0 (ji10)).f0) ((rd_T98 l0 (ji10)).f1) ((rd_T98 l0 x7_1).f0) ((rd_T98 l0 x7_1).f1)).bind fun t365 => (if t365 ≥ 0 then (some false) else (impl_DependsOk.l0 k1 l0 l0 (l0.length : Int) (wrap64 (x7_1 + 1))))) else (none)) else (none)) = some r := by first | (rw [hji10] at H; exact H) | (simp only [hji10] at H ⊢; exact H)
 (try rw [hji10] at A5)
 (try rw [hji10] at A7)
 have hji10w : (IntKind.i64.wrap (x7_1 - 1)) = ji10 := (i64_w _).trans hji10
 by_cases c11 : 0 ≤ (ji10)
 rotate_left
 ·rw [if_neg c11] at H
  exact absurd H (by simp)
 rw [if_pos c11] at H
 have c11b0 : decide (0 ≤ (ji10)) = true := decide_eq_true c11
 clear c11
 by_cases c12 : (ji10) < (l0.length : Int)
 rotate_left
 ·rw [if_neg c12] at H
  exact absurd H (by simp)
 rw [if_pos c12] at H
 have c12b0 : decide ((ji10) < (l0.length : Int)) = true := decide_eq_true c12
 clear c12
 obtain ⟨t365, A13, H⟩ := bi_ H
 by_cases c14 : t365 ≥ 0
 rotate_left
 ·rw [if_neg c14] at H
  have c14b0 : decide (0 ≤ t365) = false := decide_eq_false c14
  clear c14
  have H' := Aside0.mk H
  clear H
  have p360 : 0 ≤ (x7_1 : Int) := of_decide_eq_true dg_
  have q360 : x7_1 < (l0.length : Int) := of_decide_eq_true dg_
  obtain ⟨ad360, e360, hx360_0, hx360_1⟩ := at_T98 HR0.out x7_1 p360 q360
  cases e360
  replace hx360_0 := hc_ HB hx360_0
  replace hx360_1 := hc_ HB hx360_1
  replace p360 := eq_true p360
  replace q360 := eq_true q360
  try go_wp2_with (first | ((with_reducible refine gate_dst (N := 4) rfl ?_); refine box_event ?hg (N := 4) ?hd (cs := #[.int .i64 0, .int .i64 0]) (t := 98) ?hr ?_; (case hd => rfl); (case hg => rfl); (case hr => first | (go_simp; done) | (go_simp; rfl)); intro gb361 hg w20 hbox hb; have BK361 := Aside0.mk (hbox); have GW361 := gw_ hg HB; have GE361 := gw_ hg HB; replace HB := hs_ HB hb; clear hb hbox hg; obtain ⟨hcz21_0, hcz21_1, hfz21_0, hfz21_1⟩ := cz2_ BK361.out))
  have n0_ : Aside0 (((w20.setCell ⟨gb361, 0, none⟩ (.int .i64 ((rd_T98 l0 x7_1).f0))).setCell ⟨gb361, 1, none⟩ (.int .i64 ((rd_T98 l0 x7_1).f1))).heap[gb361]? = some (.cells #[.int .i64 ((rd_T98 l0 x7_1).f0), .int .i64 ((rd_T98 l0 x7_1).f1)] 98 (0, 0))) := ⟨by (with_reducible repeat (first | refine blk_drewN ?_ _ | refine blk_drew ?_ | refine blk_alloc ?_ _)); refine blk_put (cs := #[.int .i64 ((rd_T98 l0 x7_1).f0), .int .i64 0]) ?_ 1 _ rfl; (with_reducible repeat (first | refine blk_drewN ?_ _ | refine blk_drew ?_ | refine blk_alloc ?_ _)); refine blk_put (cs := #[.int .i64 0, .int .i64 0]) ?_ 0 _ rfl; (with_reducible repeat (first | refine blk_drewN ?_ _ | refine blk_drew ?_ | refine blk_alloc ?_ _)); exact BK361.out⟩
  have n1_ : Aside0 (Below w.heap.size w ((w20.setCell ⟨gb361, 0, none⟩ (.int .i64 ((rd_T98 l0 x7_1).f0))).setCell ⟨gb361, 1, none⟩ (.int .i64 ((rd_T98 l0 x7_1).f1)))) := ⟨bb_ HB.out⟩
  (try clear BK361)
  (try clear HB)
  generalize ((w20.setCell ⟨gb361, 0, none⟩ (.int .i64 ((rd_T98 l0 x7_1).f0))).setCell ⟨gb361, 1, none⟩ (.int .i64 ((rd_T98 l0 x7_1).f1))) = w22 at n0_ n1_ ⊢
  have BK361 := n0_
  have HB := n1_
  clear n0_ n1_
  replace BK361 := Aside0.mk (blk_drew BK361.out)
  replace HB := Aside0.mk (below_drew1 HB.out)
  have p364 : 0 ≤ ((ji10) : Int) := of_decide_eq_true dg_
  have q364 : (ji10) < (l0.length : Int) := of_decide_eq_true dg_
  obtain ⟨ad364, e364, hx364_0, hx364_1⟩ := at_T98 HR0.out (ji10) p364 q364
  have hw364_1 := hx364_1
  have hw364_0 := hx364_0
  obtain rfl : ad360 = ad364 := (by injection e364)
  replace hx364_0 := hc_ HB hx364_0
  replace hx364_1 := hc_ HB hx364_1
  replace p364 := eq_true p364
  replace q364 := eq_true q364
  refine start_ (n := 24) (S := fun w' => w'.cell? ⟨gb361, 0, none⟩ = some (.int .i64 ((rd_T98 l0 x7_1).f0)) ∧ w'.cell? ⟨gb361, 1, none⟩ = some (.int .i64 ((rd_T98 l0 x7_1).f1)) ∧ w'.cell? (ad360.add (((ji10)).toNat * 2)) = some (.int .i64 ((rd_T98 l0 (ji10)).f0)) ∧ w'.cell? ⟨(ad360.add (((ji10)).toNat * 2)).block, (ad360.add (((ji10)).toNat * 2)).off + 1, none⟩ = some (.int .i64 ((rd_T98 l0 (ji10)).f1))) (ds := []) #[false, false, false, false, false, false, false, false, false, false, false, false, false, false, false, false, false, false, false, false, false, false, false, false] (by kernel_rfl) rfl rfl ⟨(blk_cell BK361.out 0).trans rfl, (blk_cell BK361.out 1).trans rfl, (hc_ HB hw364_0 :), (hc_ HB hw364_1 :)⟩ (fun hHeld => ?_); refine with_tabW impl_DependsOk.tab4 impl_DependsOk.bits4 (fun HT_ HW_ => ?_)
  generalize w22.drew = w23 at BK361 HB hx364_0 hx364_1 hHeld ⊢
  refine pu_ 0 12 (bt_ 24 1) HT_ ?_
  refine take_ (i := 1) (N := some 13) (v := ?_) (a' := ?_) (bt_ 24 3) rfl rfl (take_ofW HT_.out HW_.out (by kernel_rfl)) (fun _ _ _ h => h) (Or.inl ⟨by rfl, ?_⟩) hHeld ?_ ?_
  rotate_left
  ·rintro w' ⟨s0, s1, s2, s3⟩
   go_simp
   with_reducible rfl
  rotate_left
  ·simp only [Act.put, List.setIfInBounds_toArray, List.set_cons_zero, List.set_cons_succ, i64_w, i32_w]
   rfl
  refine one_ (i := 2) (N := some 14) (bt_ 24 7) rfl rfl (one_of HT_.out (by kernel_rfl)) (by decide) (fun K hK => ?_)
  refine goes_ Tryz.func52 (by kernel_rfl) rfl #[.int .i64 ((rd_T98 l0 x7_1).f0), .int .i64 0, .int .i64 127] (by rfl) rfl rfl (by (try simp only [List.map_toArray, List.map_cons, List.map_nil]); first | done | rfl | (simp only [List.length_drop, List.length_take]; rfl)) ?_
  with_reducible refine (impl_inside.calls ((rd_T98 l0 x7_1).f0) 0 127 true _ A5.out).mono ?_
  rintro e w' ⟨rfl, ⟨nd, rfl⟩⟩
  refine ⟨_, rfl, ?_⟩
  refine hK.out _ _ ⟨(blk_cell BK361.out 0).trans rfl, (blk_cell BK361.out 1).trans rfl, (hc_ HB hw364_0 :), (hc_ HB hw364_1 :)⟩ (fun hHeld => ?_)
  clear hK K
  refine norm_ (a' := ?_) ?_ ?_
  rotate_left
  ·show Act.put _ (some 14) _ = _
   simp only [Act.put, List.setIfInBounds_toArray, List.set_cons_zero, List.set_cons_succ, i64_w, i32_w]
   rfl
  refine pu_ 3 15 (bt_ 24 15) HT_ ?_
  refine pu_ 4 16 (bt_ 24 31) HT_ ?_
  refine pu_ 5 17 (bt_ 24 63) HT_ ?_
  refine take_ (i := 6) (N := some 18) (v := ?_) (a' := ?_) (bt_ 24 127) rfl rfl (take_ofW HT_.out HW_.out (by kernel_rfl)) (fun _ _ _ h => h) (Or.inl ⟨by rfl, ?_⟩) hHeld ?_ ?_
  rotate_left
  ·rintro w' ⟨s0, s1, s2, s3⟩
   go_simp
   with_reducible rfl
  rotate_left
  ·simp only [Act.put, List.setIfInBounds_toArray, List.set_cons_zero, List.set_cons_succ, i64_w, i32_w]
   rfl
  refine one_ (i := 7) (N := some 19) (bt_ 24 255) rfl rfl (one_of HT_.out (by kernel_rfl)) (by decide) (fun K hK => ?_)
  refine goes_ Tryz.func52 (by kernel_rfl) rfl #[.int .i64 ((rd_T98 l0 x7_1).f1), .int .i64 0, .int .i64 127] (by rfl) rfl rfl (by (try simp only [List.map_toArray, List.map_cons, List.map_nil]); first | done | rfl | (simp only [List.length_drop, List.length_take]; rfl)) ?_
  with_reducible refine (impl_inside.calls ((rd_T98 l0 x7_1).f1) 0 127 true _ A7.out).mono ?_
  rintro e w' ⟨rfl, ⟨nd, rfl⟩⟩
  refine ⟨_, rfl, ?_⟩
  refine hK.out _ _ ⟨(blk_cell BK361.out 0).trans rfl, (blk_cell BK361.out 1).trans rfl, (hc_ HB hw364_0 :), (hc_ HB hw364_1 :)⟩ (fun hHeld => ?_)
  clear hK K
  refine norm_ (a' := ?_) ?_ ?_
  rotate_left
  ·show Act.put _ (some 19) _ = _
   simp only [Act.put, List.setIfInBounds_toArray, List.set_cons_zero, List.set_cons_succ, i64_w, i32_w]
   rfl
  refine pu_ 8 20 (bt_ 24 511) HT_ ?_
  refine pu_ 9 21 (bt_ 24 1023) HT_ ?_
  refine pu_ 10 22 (bt_ 24 2047) HT_ ?_
  refine pu_ 11 23 (bt_ 24 4095) HT_ ?_
  refine pu_ 12 24 (bt_ 24 8191) HT_ ?_
  refine pu_ 13 25 (bt_ 24 16383) HT_ ?_
  refine pu_ 14 26 (bt_ 24 32767) HT_ ?_
  refine pu_ 15 27 (bt_ 24 65535) HT_ ?_
  refine pu_ 16 28 (bt_ 24 131071) HT_ ?_
  refine pu_ 17 29 (bt_ 24 262143) HT_ ?_
  refine take_ (i := 18) (N := some 30) (v := ?_) (a' := ?_) (bt_ 24 524287) rfl rfl (take_ofW HT_.out HW_.out (by kernel_rfl)) (fun _ _ _ h => h) (Or.inl ⟨by rfl, ?_⟩) hHeld ?_ ?_
  rotate_left
  ·rintro w' ⟨s0, s1, s2, s3⟩
   go_simp
   with_reducible rfl
  rotate_left
  ·simp only [Act.put, List.setIfInBounds_toArray, List.set_cons_zero, List.set_cons_succ, i64_w, i32_w]
   rfl
  refine take_ (i := 19) (N := some 31) (v := ?_) (a' := ?_) (bt_ 24 1048575) rfl rfl (take_ofW HT_.out HW_.out (by kernel_rfl)) (fun _ _ _ h => h) (Or.inl ⟨by rfl, ?_⟩) hHeld ?_ ?_
  rotate_left
  ·rintro w' ⟨s0, s1, s2, s3⟩
   go_simp
   with_reducible rfl
  rotate_left
  ·simp only [Act.put, List.setIfInBounds_toArray, List.set_cons_zero, List.set_cons_succ, i64_w, i32_w]
   rfl
  refine one_ (i := 20) (N := some 32) (bt_ 24 2097151) rfl rfl (one_of HT_.out (by kernel_rfl)) (by decide) (fun K hK => ?_)
  refine goes_ Tryz.func106 (by kernel_rfl) rfl #[.agg #[.int .i64 ((rd_T98 l0 (ji10)).f0), .int .i64 ((rd_T98 l0 (ji10)).f1)], .agg #[.int .i64 ((rd_T98 l0 x7_1).f0), .int .i64 ((rd_T98 l0 x7_1).f1)]] (by rfl) rfl rfl (by (try simp only [List.map_toArray, List.map_cons, List.map_nil]); first | done | (simp only [hji10]; rfl) | rfl | (simp only [List.length_drop, List.length_take]; rfl)) ?_
  with_reducible refine (impl_compareDepends.calls ((rd_T98 l0 (ji10)).f0) ((rd_T98 l0 (ji10)).f1) ((rd_T98 l0 x7_1).f0) ((rd_T98 l0 x7_1).f1) t365 _ A13.out).mono ?_
  rintro e w24 ⟨rfl, hb⟩
  refine ⟨_, rfl, ?_⟩
  replace BK361 := kb_ BK361 hb
  replace HB := hs_ HB hb
  (try clear hb)
  refine hK.out _ _ ⟨(blk_cell BK361.out 0).trans rfl, (blk_cell BK361.out 1).trans rfl, (hc_ HB hw364_0 :), (hc_ HB hw364_1 :)⟩ (fun hHeld => ?_)
  clear hK K
  refine norm_ (a' := ?_) ?_ ?_
  rotate_left
  ·show Act.put _ (some 32) _ = _
   simp only [Act.put, List.setIfInBounds_toArray, List.set_cons_zero, List.set_cons_succ, i64_w, i32_w]
   rfl
  refine pu_ 21 33 (bt_ 24 4194303) HT_ ?_
  refine pu_ 22 34 (bt_ 24 8388607) HT_ ?_
  refine pu_ 23 35 (bt_ 24 16777215) HT_ ?_
  refine done_ (done_of HT_.out (by kernel_rfl)) ?_
  try go_wp2
  go_roundg k1
  case measure => have := HK1.out; omega
  case rel => exact ⟨(wrap64 (x7_1 + 1)), ef_, H', ⟨by have := HK1.out; omega⟩, ⟨bb_ HB.out⟩⟩
 rw [if_pos c14] at H
 have c14b0 : decide (0 ≤ t365) = true := decide_eq_true c14
 clear c14
 obtain rfl := Option.some.inj H
 have p360 : 0 ≤ (x7_1 : Int) := of_decide_eq_true dg_
 have q360 : x7_1 < (l0.length : Int) := of_decide_eq_true dg_
 obtain ⟨ad360, e360, hx360_0, hx360_1⟩ := at_T98 HR0.out x7_1 p360 q360
 cases e360
 replace hx360_0 := hc_ HB hx360_0
 replace hx360_1 := hc_ HB hx360_1
 replace p360 := eq_true p360
 replace q360 := eq_true q360
 try go_wp2_with (first | ((with_reducible refine gate_dst (N := 4) rfl ?_); refine box_event ?hg (N := 4) ?hd (cs := #[.int .i64 0, .int .i64 0]) (t := 98) ?hr ?_; (case hd => rfl); (case hg => rfl); (case hr => first | (go_simp; done) | (go_simp; rfl)); intro gb361 hg w15 hbox hb; have BK361 := Aside0.mk (hbox); have GW361 := gw_ hg HB; have GE361 := gw_ hg HB; replace HB := hs_ HB hb; clear hb hbox hg; obtain ⟨hcz16_0, hcz16_1, hfz16_0, hfz16_1⟩ := cz2_ BK361.out))
 have n0_ : Aside0 (((w15.setCell ⟨gb361, 0, none⟩ (.int .i64 ((rd_T98 l0 x7_1).f0))).setCell ⟨gb361, 1, none⟩ (.int .i64 ((rd_T98 l0 x7_1).f1))).heap[gb361]? = some (.cells #[.int .i64 ((rd_T98 l0 x7_1).f0), .int .i64 ((rd_T98 l0 x7_1).f1)] 98 (0, 0))) := ⟨by (with_reducible repeat (first | refine blk_drewN ?_ _ | refine blk_drew ?_ | refine blk_alloc ?_ _)); refine blk_put (cs := #[.int .i64 ((rd_T98 l0 x7_1).f0), .int .i64 0]) ?_ 1 _ rfl; (with_reducible repeat (first | refine blk_drewN ?_ _ | refine blk_drew ?_ | refine blk_alloc ?_ _)); refine blk_put (cs := #[.int .i64 0, .int .i64 0]) ?_ 0 _ rfl; (with_reducible repeat (first | refine blk_drewN ?_ _ | refine blk_drew ?_ | refine blk_alloc ?_ _)); exact BK361.out⟩
 have n1_ : Aside0 (Below w.heap.size w ((w15.setCell ⟨gb361, 0, none⟩ (.int .i64 ((rd_T98 l0 x7_1).f0))).setCell ⟨gb361, 1, none⟩ (.int .i64 ((rd_T98 l0 x7_1).f1)))) := ⟨bb_ HB.out⟩
 (try clear BK361)
 (try clear HB)
 generalize ((w15.setCell ⟨gb361, 0, none⟩ (.int .i64 ((rd_T98 l0 x7_1).f0))).setCell ⟨gb361, 1, none⟩ (.int .i64 ((rd_T98 l0 x7_1).f1))) = w17 at n0_ n1_ ⊢
 have BK361 := n0_
 have HB := n1_
 clear n0_ n1_
 replace BK361 := Aside0.mk (blk_drew BK361.out)
 replace HB := Aside0.mk (below_drew1 HB.out)
 have p364 : 0 ≤ ((ji10) : Int) := of_decide_eq_true dg_
 have q364 : (ji10) < (l0.length : Int) := of_decide_eq_true dg_
 obtain ⟨ad364, e364, hx364_0, hx364_1⟩ := at_T98 HR0.out (ji10) p364 q364
 have hw364_1 := hx364_1
 have hw364_0 := hx364_0
 obtain rfl : ad360 = ad364 := (by injection e364)
 replace hx364_0 := hc_ HB hx364_0
 replace hx364_1 := hc_ HB hx364_1
 replace p364 := eq_true p364
 replace q364 := eq_true q364
 refine start_ (n := 24) (S := fun w' => w'.cell? ⟨gb361, 0, none⟩ = some (.int .i64 ((rd_T98 l0 x7_1).f0)) ∧ w'.cell? ⟨gb361, 1, none⟩ = some (.int .i64 ((rd_T98 l0 x7_1).f1)) ∧ w'.cell? (ad360.add (((ji10)).toNat * 2)) = some (.int .i64 ((rd_T98 l0 (ji10)).f0)) ∧ w'.cell? ⟨(ad360.add (((ji10)).toNat * 2)).block, (ad360.add (((ji10)).toNat * 2)).off + 1, none⟩ = some (.int .i64 ((rd_T98 l0 (ji10)).f1))) (ds := []) #[false, false, false, false, false, false, false, false, false, false, false, false, false, false, false, false, false, false, false, false, false, false, false, false] (by kernel_rfl) rfl rfl ⟨(blk_cell BK361.out 0).trans rfl, (blk_cell BK361.out 1).trans rfl, (hc_ HB hw364_0 :), (hc_ HB hw364_1 :)⟩ (fun hHeld => ?_); refine with_tabW impl_DependsOk.tab4 impl_DependsOk.bits4 (fun HT_ HW_ => ?_)
 generalize w17.drew = w18 at BK361 HB hx364_0 hx364_1 hHeld ⊢
 refine pu_ 0 12 (bt_ 24 1) HT_ ?_
 refine take_ (i := 1) (N := some 13) (v := ?_) (a' := ?_) (bt_ 24 3) rfl rfl (take_ofW HT_.out HW_.out (by kernel_rfl)) (fun _ _ _ h => h) (Or.inl ⟨by rfl, ?_⟩) hHeld ?_ ?_
 rotate_left
 ·rintro w' ⟨s0, s1, s2, s3⟩
  go_simp
  with_reducible rfl
 rotate_left
 ·simp only [Act.put, List.setIfInBounds_toArray, List.set_cons_zero, List.set_cons_succ, i64_w, i32_w]
  rfl
 refine one_ (i := 2) (N := some 14) (bt_ 24 7) rfl rfl (one_of HT_.out (by kernel_rfl)) (by decide) (fun K hK => ?_)
 refine goes_ Tryz.func52 (by kernel_rfl) rfl #[.int .i64 ((rd_T98 l0 x7_1).f0), .int .i64 0, .int .i64 127] (by rfl) rfl rfl (by (try simp only [List.map_toArray, List.map_cons, List.map_nil]); first | done | rfl | (simp only [List.length_drop, List.length_take]; rfl)) ?_
 with_reducible refine (impl_inside.calls ((rd_T98 l0 x7_1).f0) 0 127 true _ A5.out).mono ?_
 rintro e w' ⟨rfl, ⟨nd, rfl⟩⟩
 refine ⟨_, rfl, ?_⟩
 refine hK.out _ _ ⟨(blk_cell BK361.out 0).trans rfl, (blk_cell BK361.out 1).trans rfl, (hc_ HB hw364_0 :), (hc_ HB hw364_1 :)⟩ (fun hHeld => ?_)
 clear hK K
 refine norm_ (a' := ?_) ?_ ?_
 rotate_left
 ·show Act.put _ (some 14) _ = _
  simp only [Act.put, List.setIfInBounds_toArray, List.set_cons_zero, List.set_cons_succ, i64_w, i32_w]
  rfl
 refine pu_ 3 15 (bt_ 24 15) HT_ ?_
 refine pu_ 4 16 (bt_ 24 31) HT_ ?_
 refine pu_ 5 17 (bt_ 24 63) HT_ ?_
 refine take_ (i := 6) (N := some 18) (v := ?_) (a' := ?_) (bt_ 24 127) rfl rfl (take_ofW HT_.out HW_.out (by kernel_rfl)) (fun _ _ _ h => h) (Or.inl ⟨by rfl, ?_⟩) hHeld ?_ ?_
 rotate_left
 ·rintro w' ⟨s0, s1, s2, s3⟩
  go_simp
  with_reducible rfl
 rotate_left
 ·simp only [Act.put, List.setIfInBounds_toArray, List.set_cons_zero, List.set_cons_succ, i64_w, i32_w]
  rfl
 refine one_ (i := 7) (N := some 19) (bt_ 24 255) rfl rfl (one_of HT_.out (by kernel_rfl)) (by decide) (fun K hK => ?_)
 refine goes_ Tryz.func52 (by kernel_rfl) rfl #[.int .i64 ((rd_T98 l0 x7_1).f1), .int .i64 0, .int .i64 127] (by rfl) rfl rfl (by (try simp only [List.map_toArray, List.map_cons, List.map_nil]); first | done | rfl | (simp only [List.length_drop, List.length_take]; rfl)) ?_
 with_reducible refine (impl_inside.calls ((rd_T98 l0 x7_1).f1) 0 127 true _ A7.out).mono ?_
 rintro e w' ⟨rfl, ⟨nd, rfl⟩⟩
 refine ⟨_, rfl, ?_⟩
 refine hK.out _ _ ⟨(blk_cell BK361.out 0).trans rfl, (blk_cell BK361.out 1).trans rfl, (hc_ HB hw364_0 :), (hc_ HB hw364_1 :)⟩ (fun hHeld => ?_)
 clear hK K
 refine norm_ (a' := ?_) ?_ ?_
 rotate_left
 ·show Act.put _ (some 19) _ = _
  simp only [Act.put, List.setIfInBounds_toArray, List.set_cons_zero, List.set_cons_succ, i64_w, i32_w]
  rfl
 refine pu_ 8 20 (bt_ 24 511) HT_ ?_
 refine pu_ 9 21 (bt_ 24 1023) HT_ ?_
 refine pu_ 10 22 (bt_ 24 2047) HT_ ?_
 refine pu_ 11 23 (bt_ 24 4095) HT_ ?_
 refine pu_ 12 24 (bt_ 24 8191) HT_ ?_
 refine pu_ 13 25 (bt_ 24 16383) HT_ ?_
 refine pu_ 14 26 (bt_ 24 32767) HT_ ?_
 refine pu_ 15 27 (bt_ 24 65535) HT_ ?_
 refine pu_ 16 28 (bt_ 24 131071) HT_ ?_
 refine pu_ 17 29 (bt_ 24 262143) HT_ ?_
 refine take_ (i := 18) (N := some 30) (v := ?_) (a' := ?_) (bt_ 24 524287) rfl rfl (take_ofW HT_.out HW_.out (by kernel_rfl)) (fun _ _ _ h => h) (Or.inl ⟨by rfl, ?_⟩) hHeld ?_ ?_
 rotate_left
 ·rintro w' ⟨s0, s1, s2, s3⟩
  go_simp
  with_reducible rfl
 rotate_left
 ·simp only [Act.put, List.setIfInBounds_toArray, List.set_cons_zero, List.set_cons_succ, i64_w, i32_w]
  rfl
 refine take_ (i := 19) (N := some 31) (v := ?_) (a' := ?_) (bt_ 24 1048575) rfl rfl (take_ofW HT_.out HW_.out (by kernel_rfl)) (fun _ _ _ h => h) (Or.inl ⟨by rfl, ?_⟩) hHeld ?_ ?_
 rotate_left
 ·rintro w' ⟨s0, s1, s2, s3⟩
  go_simp
  with_reducible rfl
 rotate_left
 ·simp only [Act.put, List.setIfInBounds_toArray, List.set_cons_zero, List.set_cons_succ, i64_w, i32_w]
  rfl
 refine one_ (i := 20) (N := some 32) (bt_ 24 2097151) rfl rfl (one_of HT_.out (by kernel_rfl)) (by decide) (fun K hK => ?_)
 refine goes_ Tryz.func106 (by kernel_rfl) rfl #[.agg #[.int .i64 ((rd_T98 l0 (ji10)).f0), .int .i64 ((rd_T98 l0 (ji10)).f1)], .agg #[.int .i64 ((rd_T98 l0 x7_1).f0), .int .i64 ((rd_T98 l0 x7_1).f1)]] (by rfl) rfl rfl (by (try simp only [List.map_toArray, List.map_cons, List.map_nil]); first | done | (simp only [hji10]; rfl) | rfl | (simp only [List.length_drop, List.length_take]; rfl)) ?_
 with_reducible refine (impl_compareDepends.calls ((rd_T98 l0 (ji10)).f0) ((rd_T98 l0 (ji10)).f1) ((rd_T98 l0 x7_1).f0) ((rd_T98 l0 x7_1).f1) t365 _ A13.out).mono ?_
 rintro e w19 ⟨rfl, hb⟩
 refine ⟨_, rfl, ?_⟩
 replace BK361 := kb_ BK361 hb
 replace HB := hs_ HB hb
 (try clear hb)
 refine hK.out _ _ ⟨(blk_cell BK361.out 0).trans rfl, (blk_cell BK361.out 1).trans rfl, (hc_ HB hw364_0 :), (hc_ HB hw364_1 :)⟩ (fun hHeld => ?_)
 clear hK K
 refine norm_ (a' := ?_) ?_ ?_
 rotate_left
 ·show Act.put _ (some 32) _ = _
  simp only [Act.put, List.setIfInBounds_toArray, List.set_cons_zero, List.set_cons_succ, i64_w, i32_w]
  rfl
 refine pu_ 21 33 (bt_ 24 4194303) HT_ ?_
 refine pu_ 22 34 (bt_ 24 8388607) HT_ ?_
 refine pu_ 23 35 (bt_ 24 16777215) HT_ ?_
 refine done_ (done_of HT_.out (by kernel_rfl)) ?_
 try go_wp2
 go_ret
 exact ⟨by first | rfl | (simp [errW_none, errW_some] <;> rfl) | (simp only [← hji10]; first | rfl | (simp [errW_none, errW_some] <;> rfl)) | (simp [*, errW_none, errW_some] <;> rfl), bb_ HB.out⟩

end Go.Proofs.YtimdefbpoddoaaaGreat.PFnVerdicts
-- thin
