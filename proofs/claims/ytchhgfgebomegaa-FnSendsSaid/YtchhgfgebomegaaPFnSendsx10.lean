/- The law's functions as plain functions, and their calls. No condition. -/
import Derived.Test.YtchhgfgebomegaaPFnSendsx0
namespace Go.Proofs.Ytchhgfgebomegaa.PFnSends
open Go.RowKit Go.Proofs.YtchhgfgebomegaaW.PrintWords Go.Proofs.YtchhgfgebomegaaW.PrintLast Go.Proofs.YtchhgfgebomegaaW.PrintMore
attribute [local go_sem] max2_int min2_int max_two min_two max_three min_three max_four min_four
set_option linter.unusedVariables false
set_option maxHeartbeats 8000000
set_option maxRecDepth 100000
set_option linter.unusedSimpArgs false

/-! ### impl_IdsDistinct: function 11 -/
mutual
def impl_IdsDistinct.l0 : Nat → List (S44) → List (S44) → Int → Int → Option (Bool)
 | 0, _, _, _, _ => none
 | k + 1, x0, x7, x8, x9 => if x9 < x8 then (if 0 ≤ x9 then (if x9 < (x7.length : Int) then (if x9 ≤ (x0.length : Int) then ((some (x0.take (x9 : Int).toNat : List (S44))).bind fun y370 => (impl_IdsDistinct.l1 k x0 x7 x8 x9 y370 (y370.length : Int) 0 ((rd_T44 x7 x9).f0) ((rd_T44 x7 x9).f1) ((rd_T44 x7 x9).f2) ((rd_T44 x7 x9).f3) ((rd_T44 x7 x9).f4))) else (none)) else (none)) else (none)) else (some true)
def impl_IdsDistinct.l1 : Nat → List (S44) → List (S44) → Int → Int → List (S44) → Int → Int → Int → Int → Int → Int → Int → Option (Bool)
 | 0, _, _, _, _, _, _, _, _, _, _, _, _ => none
 | k + 1, x0, x7, x8, x9, x16, x17, x18, x370000, x370001, x370002, x370003, x370004 => if x18 < x17 then (if 0 ≤ x18 then (if x18 < (x16.length : Int) then (if ((rd_T44 x16 x18).f0) = x370000 then (some false) else (impl_IdsDistinct.l1 k x0 x7 x8 x9 x16 x17 (wrap64 (x18 + 1)) x370000 x370001 x370002 x370003 x370004)) else (none)) else (none)) else (impl_IdsDistinct.l0 k x0 x7 x8 (wrap64 (x9 + 1)))
end
def impl_IdsDistinct.f (k : Nat) (l0 : List (S44)) : Option (Bool) := impl_IdsDistinct.l0 k l0 l0 (l0.length : Int) 0
theorem impl_IdsDistinct.mono_l : ∀ k, (∀ y0 y1 y2 y3, LeO (impl_IdsDistinct.l0 k y0 y1 y2 y3) (impl_IdsDistinct.l0 (k + 1) y0 y1 y2 y3)) ∧ (∀ y0 y1 y2 y3 y4 y5 y6 y7 y8 y9 y10 y11, LeO (impl_IdsDistinct.l1 k y0 y1 y2 y3 y4 y5 y6 y7 y8 y9 y10 y11) (impl_IdsDistinct.l1 (k + 1) y0 y1 y2 y3 y4 y5 y6 y7 y8 y9 y10 y11))
 | 0 => ⟨fun _ _ _ _ r h => by simp [impl_IdsDistinct.l0] at h, fun _ _ _ _ _ _ _ _ _ _ _ _ r h => by simp [impl_IdsDistinct.l1] at h⟩
 | k + 1 => by
  obtain ⟨ih0, ih1⟩ := impl_IdsDistinct.mono_l k
  refine ⟨?_, ?_⟩
  ·intro y0 y1 y2 y3
   unfold impl_IdsDistinct.l0
   repeat' (with_reducible first | exact ih0 .. | exact ih1 .. | exact LeO.refl .. | exact LeO.none .. | refine LeO.ite ?_ ?_ | refine LeO.bind ?_ (fun _ => ?_))
  ·intro y0 y1 y2 y3 y4 y5 y6 y7 y8 y9 y10 y11
   unfold impl_IdsDistinct.l1
   repeat' (with_reducible first | exact ih0 .. | exact ih1 .. | exact LeO.refl .. | exact LeO.none .. | refine LeO.ite ?_ ?_ | refine LeO.bind ?_ (fun _ => ?_))
theorem impl_IdsDistinct.mono : ∀ a0 k, LeO (impl_IdsDistinct.f k a0) (impl_IdsDistinct.f (k + 1) a0) := by
 intro a0 k
 obtain ⟨ih0, ih1⟩ := impl_IdsDistinct.mono_l k
 unfold impl_IdsDistinct.f
 repeat' (with_reducible first | exact ih0 .. | exact ih1 .. | exact LeO.refl .. | exact LeO.none .. | refine LeO.ite ?_ ?_ | refine LeO.bind ?_ (fun _ => ?_))
theorem impl_IdsDistinct.calls (k : Nat) (A0 : Option Addr) (c0 : Nat) (l0 : List (S44)) (r : Bool) (w : World) (hr0 : Kd.C k44 w A0 l0.length l0) (hc0 : l0.length ≤ c0) (h : impl_IdsDistinct.f k l0 = some r) :
  Calls Try.prog 11 #[.slice A0 l0.length c0] w fun e w' => e = .returned (.bool r) ∧ Below w.heap.size w w' := by
 have hu44 := Try.underlying44
 have HR0 := Aside0.mk hr0
 have HC0 := Aside0.mk hc0
 clear hr0 hc0
 have HB := Aside0.mk (Below.refl w.heap.size w)
 have H : (impl_IdsDistinct.l0 k l0 l0 (l0.length : Int) 0) = some r := h
 clear h
 have H' := Aside0.mk H
 clear H
 go_enter Try.func11, Try.ntmps11
 go_wp2
 go_loopg [9] k (fun kq v9 w' => ∃ (x9_1 : Int), v9 = .int .i64 x9_1 ∧ Aside0 (impl_IdsDistinct.l0 kq l0 l0 (l0.length : Int) x9_1 = some r) ∧ Aside0 (kq ≤ k) ∧ Aside0 (Below w.heap.size w w'))
 case atStart => exact ⟨(0), ef_, H', ⟨Nat.le_refl _⟩, ⟨bb_ HB.out⟩⟩
 clear H'
 obtain ⟨x9_1, rfl, HA, HK1, HB⟩ := hrel
 obtain _ | k1 := gk
 ·exact absurd HA.out (by simp [impl_IdsDistinct.l0])
 have H := HA.out
 clear HA
 simp only [impl_IdsDistinct.l0] at H
 by_cases c2 : x9_1 < (l0.length : Int)
 rotate_left
 ·rw [if_neg c2] at H
  have c2b0 : decide (x9_1 < (l0.length : Int)) = false := decide_eq_false c2
  clear c2
  obtain rfl := Option.some.inj H
  go_wp2
  go_ret
  exact ⟨fin_, bb_ HB.out⟩
 rw [if_pos c2] at H
 have c2b0 : decide (x9_1 < (l0.length : Int)) = true := decide_eq_true c2
 clear c2
 by_cases c3 : 0 ≤ x9_1
 rotate_left
 ·rw [if_neg c3] at H
  exact absurd H (by simp)
 rw [if_pos c3] at H
 have c3b0 : decide (0 ≤ x9_1) = true := decide_eq_true c3
 clear c3
 by_cases c4 : x9_1 < (l0.length : Int)
 rotate_left
 ·rw [if_neg c4] at H
  exact absurd H (by simp)
 rw [if_pos c4] at H
 have c4b0 : decide (x9_1 < (l0.length : Int)) = true := decide_eq_true c4
 clear c4
 have c5b0 := eq_true (of_decide_eq_true dg_ : 0 ≤ x9_1)
 by_cases c6 : x9_1 ≤ (l0.length : Int)
 rotate_left
 ·rw [if_neg c6] at H
  exact absurd H (by simp)
 rw [if_pos c6] at H
 have c6b0 := eq_true c6
 have c6b1 : decide (x9_1 ≤ (l0.length : Int)) = true := decide_eq_true c6
 clear c6
 obtain ⟨y370, Ny370, H⟩ := bo_ H
 have H' := Aside0.mk H
 clear H
 have p368 : 0 ≤ (x9_1 : Int) := of_decide_eq_true dg_
 have q368 : x9_1 < (l0.length : Int) := of_decide_eq_true dg_
 obtain ⟨ad368, e368, hx368_0, hx368_1, hx368_2, hx368_3, hx368_4⟩ := at_T44 HR0.out x9_1 p368 q368
 cases e368
 replace hx368_0 := hc_ HB hx368_0
 replace hx368_1 := hc_ HB hx368_1
 replace hx368_2 := hc_ HB hx368_2
 replace hx368_3 := hc_ HB hx368_3
 replace hx368_4 := hc_ HB hx368_4
 replace p368 := eq_true p368
 replace q368 := eq_true q368
 go_wp2_with (first | ((with_reducible refine gate_dst (N := 4) rfl ?_); refine box_event ?hg (N := 4) ?hd (cs := #[.int .i64 0, .int .i64 0, .int .i64 0, .int .i64 0, .int .i64 0]) (t := 44) ?hr ?_; (case hd => rfl); (case hg => rfl); (case hr => first | (go_simp; done) | (go_simp; rfl)); intro gb369 hg w7 hbox hb; have BK369 := Aside0.mk (hbox); have GW369 := gw_ hg HB; have GE369 := gw_ hg HB; replace HB := hs_ HB hb; clear hb hbox hg; obtain ⟨hcz8_0, hcz8_1, hcz8_2, hcz8_3, hcz8_4, hfz8_0, hfz8_1, hfz8_2, hfz8_3, hfz8_4⟩ := cz5_ BK369.out) | ((with_reducible refine gate_store (t := 44) (p := 4) rfl ?_); refine store_event (t := 44) (p := 4) (v := ?vo_w9) (w1 := (((((w7.setCell ⟨gb369, 0, none⟩ (.int .i64 ((rd_T44 l0 x9_1).f0))).setCell ⟨gb369, 1, none⟩ (.int .i64 ((rd_T44 l0 x9_1).f1))).setCell ⟨gb369, 2, none⟩ (.int .i64 ((rd_T44 l0 x9_1).f2))).setCell ⟨gb369, 3, none⟩ (.int .i64 ((rd_T44 l0 x9_1).f3))).setCell ⟨gb369, 4, none⟩ (.int .i64 ((rd_T44 l0 x9_1).f4)))) ?hg ?ho ?hn ?hr ?_; (case ho => rfl); (case hg => rfl); (case hn => rfl); (case hr => first | (go_simp; done) | (go_simp; rfl)); intro w9 hw; have n0_ : Aside0 (w9.heap[gb369]? = some (.cells #[.int .i64 ((rd_T44 l0 x9_1).f0), .int .i64 ((rd_T44 l0 x9_1).f1), .int .i64 ((rd_T44 l0 x9_1).f2), .int .i64 ((rd_T44 l0 x9_1).f3), .int .i64 ((rd_T44 l0 x9_1).f4)] 44 (0, 0))) := ⟨(by rw [hw]; exact (by (with_reducible repeat (first | refine blk_drewN ?_ _ | refine blk_drew ?_ | refine blk_alloc ?_ _)); refine blk_put (cs := #[.int .i64 ((rd_T44 l0 x9_1).f0), .int .i64 ((rd_T44 l0 x9_1).f1), .int .i64 ((rd_T44 l0 x9_1).f2), .int .i64 ((rd_T44 l0 x9_1).f3), .int .i64 0]) ?_ 4 _ rfl; (with_reducible repeat (first | refine blk_drewN ?_ _ | refine blk_drew ?_ | refine blk_alloc ?_ _)); refine blk_put (cs := #[.int .i64 ((rd_T44 l0 x9_1).f0), .int .i64 ((rd_T44 l0 x9_1).f1), .int .i64 ((rd_T44 l0 x9_1).f2), .int .i64 0, .int .i64 0]) ?_ 3 _ rfl; (with_reducible repeat (first | refine blk_drewN ?_ _ | refine blk_drew ?_ | refine blk_alloc ?_ _)); refine blk_put (cs := #[.int .i64 ((rd_T44 l0 x9_1).f0), .int .i64 ((rd_T44 l0 x9_1).f1), .int .i64 0, .int .i64 0, .int .i64 0]) ?_ 2 _ rfl; (with_reducible repeat (first | refine blk_drewN ?_ _ | refine blk_drew ?_ | refine blk_alloc ?_ _)); refine blk_put (cs := #[.int .i64 ((rd_T44 l0 x9_1).f0), .int .i64 0, .int .i64 0, .int .i64 0, .int .i64 0]) ?_ 1 _ rfl; (with_reducible repeat (first | refine blk_drewN ?_ _ | refine blk_drew ?_ | refine blk_alloc ?_ _)); refine blk_put (cs := #[.int .i64 0, .int .i64 0, .int .i64 0, .int .i64 0, .int .i64 0]) ?_ 0 _ rfl; (with_reducible repeat (first | refine blk_drewN ?_ _ | refine blk_drew ?_ | refine blk_alloc ?_ _)); exact BK369.out))⟩; have n1_ : Aside0 (Below w.heap.size w w9) := ⟨(by rw [hw]; exact (by repeat (first | (with_reducible first | exact HB.out | apply below_alloc | apply pw_below_drewN | apply below_drew1 | refine below_set ?_ GE369.out) | exact HB.out)))⟩; clear hw; clear BK369; clear HB; have BK369 := n0_; have HB := n1_; clear n0_ n1_; have q10 : (x9_1 : Int) ≤ ((l0.length : Int) : Int) := of_decide_eq_true dg_; obtain ⟨i010, hi010, _, hsz10, _⟩ := info_parts info44; have hroom10 : l0.length ≤ c0 := HC0.out; have hC10 : Kd.C k44 _ (some ad368) l0.length l0 := HR0.out; have hcut10 := cut_to (P := Try.prog) 33 44 .i64 Try.underlying33 hi010 (some ad368) l0.length c0 x9_1 (of_decide_eq_true dg_) q10 hroom10; have hr10 := Kd.C_take (m := (x9_1 : Int).toNat) hC10 (by omega); have hy10 : y370.length = (x9_1 : Int).toNat := (by rw [Ny370.out, List.length_take]; omega); rw [← Ny370.out] at hr10; rw [← hy10] at hcut10; have HR373 := Aside0.mk hr10; have HC373 := Aside0.mk (show y370.length ≤ c0 from by omega); clear hr10 hC10 hroom10 hi010 hsz10; have KY10 := Aside0.mk hy10; clear hy10; replace q10 := eq_true q10))
 go_loopg [18] k1 (fun kq v18 w' => ∃ (x18_2 : Int), v18 = .int .i64 x18_2 ∧ Aside0 (impl_IdsDistinct.l1 kq l0 l0 (l0.length : Int) x9_1 y370 (y370.length : Int) x18_2 ((rd_T44 l0 x9_1).f0) ((rd_T44 l0 x9_1).f1) ((rd_T44 l0 x9_1).f2) ((rd_T44 l0 x9_1).f3) ((rd_T44 l0 x9_1).f4) = some r) ∧ Aside0 (kq ≤ k1) ∧ Aside0 (w'.heap[gb369]? = some (.cells #[.int .i64 ((rd_T44 l0 x9_1).f0), .int .i64 ((rd_T44 l0 x9_1).f1), .int .i64 ((rd_T44 l0 x9_1).f2), .int .i64 ((rd_T44 l0 x9_1).f3), .int .i64 ((rd_T44 l0 x9_1).f4)] 44 (0, 0))) ∧ Aside0 (Below w.heap.size w w'))
 case atStart => exact ⟨(0), ef_, H', ⟨Nat.le_refl _⟩, ⟨bq_ BK369.out⟩, ⟨bb_ HB.out⟩⟩
 clear H'
 try clear c2
 try clear c2b0
 try clear c3
 try clear c3b0
 try clear c4
 try clear c4b0
 try clear c5b0
 try clear c6
 try clear c6b0
 try clear c6b1
 try clear q10
 try clear hcz8_0 hcz8_1 hcz8_2 hcz8_3 hcz8_4 hfz8_0 hfz8_1 hfz8_2 hfz8_3 hfz8_4
 try clear hx368_0
 try clear hx368_1
 try clear hx368_2
 try clear hx368_3
 try clear hx368_4
 try clear p368
 try clear q10
 try clear q368
 obtain ⟨x18_2, rfl, HA, HK2, BK369, HB⟩ := hrel
 obtain _ | k2 := gk
 ·exact absurd HA.out (by simp [impl_IdsDistinct.l1])
 have H := HA.out
 clear HA
 simp only [impl_IdsDistinct.l1] at H
 by_cases c11 : x18_2 < (y370.length : Int)
 rotate_left
 ·rw [if_neg c11] at H
  have c11b0 : decide (x18_2 < (y370.length : Int)) = false := decide_eq_false c11
  clear c11
  have H' := Aside0.mk H
  clear H
  go_wp2
  go_roundg k2
  case measure => have := HK1.out; have := HK2.out; omega
  case rel => exact ⟨(wrap64 (x9_1 + 1)), ef_, H', ⟨by have := HK1.out; have := HK2.out; omega⟩, ⟨bb_ HB.out⟩⟩
 rw [if_pos c11] at H
 have c11b0 : decide (x18_2 < (y370.length : Int)) = true := decide_eq_true c11
 clear c11
 by_cases c12 : 0 ≤ x18_2
 rotate_left
 ·rw [if_neg c12] at H
  exact absurd H (by simp)
 rw [if_pos c12] at H
 have c12b0 : decide (0 ≤ x18_2) = true := decide_eq_true c12
 clear c12
 by_cases c13 : x18_2 < (y370.length : Int)
 rotate_left
 ·rw [if_neg c13] at H
  exact absurd H (by simp)
 rw [if_pos c13] at H
 have c13b0 : decide (x18_2 < (y370.length : Int)) = true := decide_eq_true c13
 clear c13
 by_cases c14 : ((rd_T44 y370 x18_2).f0) = ((rd_T44 l0 x9_1).f0)
 ·rw [if_pos c14] at H
  have c14b0 : (((rd_T44 y370 x18_2).f0) == ((rd_T44 l0 x9_1).f0)) = true := beq_iff_eq.mpr c14
  have c14b1 : (((rd_T44 y370 x18_2).f0) != ((rd_T44 l0 x9_1).f0)) = false := bne_eq_false_iff_eq.mpr c14
  clear c14
  obtain rfl := Option.some.inj H
  have p374 : 0 ≤ (x18_2 : Int) := of_decide_eq_true dg_
  have q374 : x18_2 < (y370.length : Int) := of_decide_eq_true dg_
  obtain ⟨ad374, e374, hx374_0, hx374_1, hx374_2, hx374_3, hx374_4⟩ := at_T44 HR373.out x18_2 p374 q374
  obtain rfl : ad368 = ad374 := (by injection e374)
  replace hx374_0 := hc_ HB hx374_0
  replace hx374_1 := hc_ HB hx374_1
  replace hx374_2 := hc_ HB hx374_2
  replace hx374_3 := hc_ HB hx374_3
  replace hx374_4 := hc_ HB hx374_4
  replace p374 := eq_true p374
  replace q374 := eq_true q374
  go_wp2_with (first | ((with_reducible refine gate_dst (N := 6) rfl ?_); refine box_event ?hg (N := 6) ?hd (cs := #[.int .i64 0, .int .i64 0, .int .i64 0, .int .i64 0, .int .i64 0]) (t := 44) ?hr ?_; (case hd => rfl); (case hg => rfl); (case hr => first | (go_simp; done) | (go_simp; rfl)); intro gb375 hg w15 hbox hb; have BK375 := Aside0.mk (hbox); have GW375 := gw_ hg HB; have GE375 := gw_ hg HB; replace HB := hs_ HB hb; have NB369_375 := nl_ hg BK369; have NB375_369 := ng_ hg BK369; replace BK369 := kb_ BK369 hb; clear hb hbox hg; have hnb16 := NB375_369.out; have hnc16 := NB369_375.out; obtain ⟨hcz17_0, hcz17_1, hcz17_2, hcz17_3, hcz17_4, hfz17_0, hfz17_1, hfz17_2, hfz17_3, hfz17_4⟩ := cz5_ BK375.out; obtain ⟨hcz18_0, hcz18_1, hcz18_2, hcz18_3, hcz18_4, hfz18_0, hfz18_1, hfz18_2, hfz18_3, hfz18_4⟩ := cz5_ BK369.out))
  go_ret
  exact ⟨fin_, bb_ HB.out⟩
 rw [if_neg c14] at H
 have c14b0 : (((rd_T44 y370 x18_2).f0) == ((rd_T44 l0 x9_1).f0)) = false := beq_eq_false_iff_ne.mpr c14
 have c14b1 : (((rd_T44 y370 x18_2).f0) != ((rd_T44 l0 x9_1).f0)) = true := bne_iff_ne.mpr c14
 have H' := Aside0.mk H
 clear H
 have p374 : 0 ≤ (x18_2 : Int) := of_decide_eq_true dg_
 have q374 : x18_2 < (y370.length : Int) := of_decide_eq_true dg_
 obtain ⟨ad374, e374, hx374_0, hx374_1, hx374_2, hx374_3, hx374_4⟩ := at_T44 HR373.out x18_2 p374 q374
 obtain rfl : ad368 = ad374 := (by injection e374)
 replace hx374_0 := hc_ HB hx374_0
 replace hx374_1 := hc_ HB hx374_1
 replace hx374_2 := hc_ HB hx374_2
 replace hx374_3 := hc_ HB hx374_3
 replace hx374_4 := hc_ HB hx374_4
 replace p374 := eq_true p374
 replace q374 := eq_true q374
 go_wp2_with (first | ((with_reducible refine gate_dst (N := 6) rfl ?_); refine box_event ?hg (N := 6) ?hd (cs := #[.int .i64 0, .int .i64 0, .int .i64 0, .int .i64 0, .int .i64 0]) (t := 44) ?hr ?_; (case hd => rfl); (case hg => rfl); (case hr => first | (go_simp; done) | (go_simp; rfl)); intro gb375 hg w19 hbox hb; have BK375 := Aside0.mk (hbox); have GW375 := gw_ hg HB; have GE375 := gw_ hg HB; replace HB := hs_ HB hb; have NB369_375 := nl_ hg BK369; have NB375_369 := ng_ hg BK369; replace BK369 := kb_ BK369 hb; clear hb hbox hg; have hnb20 := NB375_369.out; have hnc20 := NB369_375.out; obtain ⟨hcz21_0, hcz21_1, hcz21_2, hcz21_3, hcz21_4, hfz21_0, hfz21_1, hfz21_2, hfz21_3, hfz21_4⟩ := cz5_ BK375.out; obtain ⟨hcz22_0, hcz22_1, hcz22_2, hcz22_3, hcz22_4, hfz22_0, hfz22_1, hfz22_2, hfz22_3, hfz22_4⟩ := cz5_ BK369.out))
 go_roundg k2
 case measure => have := HK1.out; have := HK2.out; omega
 case rel => exact ⟨(wrap64 (x18_2 + 1)), ef_, H', ⟨by have := HK1.out; have := HK2.out; omega⟩, ⟨by (with_reducible repeat (first | refine blk_drewN ?_ _ | refine blk_drew ?_ | refine blk_alloc ?_ _)); refine blk_far ?_ NB369_375.out _; (with_reducible repeat (first | refine blk_drewN ?_ _ | refine blk_drew ?_ | refine blk_alloc ?_ _)); refine blk_far ?_ NB369_375.out _; (with_reducible repeat (first | refine blk_drewN ?_ _ | refine blk_drew ?_ | refine blk_alloc ?_ _)); refine blk_far ?_ NB369_375.out _; (with_reducible repeat (first | refine blk_drewN ?_ _ | refine blk_drew ?_ | refine blk_alloc ?_ _)); refine blk_far ?_ NB369_375.out _; (with_reducible repeat (first | refine blk_drewN ?_ _ | refine blk_drew ?_ | refine blk_alloc ?_ _)); refine blk_far ?_ NB369_375.out _; (with_reducible repeat (first | refine blk_drewN ?_ _ | refine blk_drew ?_ | refine blk_alloc ?_ _)); exact BK369.out⟩, ⟨bb_ HB.out⟩⟩

/-! ### impl_copyLists: function 37 -/
def impl_copyLists.l0 : Nat → List (List (S79)) → List (List (S79)) → Int → Int → Option ((List (List (S79))))
 | 0, _, _, _, _ => none
 | k + 1, x3, x7, x8, x9 => if x9 < x8 then (if 0 ≤ x9 then (if x9 < (x7.length : Int) then ((some (([] : List (S79)) : List (S79))).bind fun y380 => (if y380.length + (rd_L5 x7 x9).length < 4398046511104 then (if x3.length < 5864062014805 then (impl_copyLists.l0 k (x3 ++ [(y380 ++ (rd_L5 x7 x9))]) x7 x8 (wrap64 (x9 + 1))) else (none)) else (none))) else (none)) else (none)) else (some x3)
def impl_copyLists.f (k : Nat) (l0 : List (List (S79))) : Option ((List (List (S79)))) := impl_copyLists.l0 k (([] : List (List (S79)))) l0 (l0.length : Int) 0
theorem impl_copyLists.mono_l : ∀ k, (∀ y0 y1 y2 y3, LeO (impl_copyLists.l0 k y0 y1 y2 y3) (impl_copyLists.l0 (k + 1) y0 y1 y2 y3))
 | 0 => fun _ _ _ _ r h => by simp [impl_copyLists.l0] at h
 | k + 1 => by
  have ih0 := impl_copyLists.mono_l k
  ·intro y0 y1 y2 y3
   unfold impl_copyLists.l0
   repeat' (with_reducible first | exact ih0 .. | exact LeO.refl .. | exact LeO.none .. | refine LeO.ite ?_ ?_ | refine LeO.bind ?_ (fun _ => ?_))
theorem impl_copyLists.mono : ∀ a0 k, LeO (impl_copyLists.f k a0) (impl_copyLists.f (k + 1) a0) := by
 intro a0 k
 have ih0 := impl_copyLists.mono_l k
 unfold impl_copyLists.f
 repeat' (with_reducible first | exact ih0 .. | exact LeO.refl .. | exact LeO.none .. | refine LeO.ite ?_ ?_ | refine LeO.bind ?_ (fun _ => ?_))
theorem impl_copyLists.calls (k : Nat) (A0 : Option Addr) (c0 : Nat) (l0 : List (List (S79))) (r : List (List (S79))) (w : World) (hr0 : Kd.C (Kd.slice 79 k79) w A0 l0.length l0) (hc0 : l0.length ≤ c0) (h : impl_copyLists.f k l0 = some r) :
  Calls Try.prog 37 #[.slice A0 l0.length c0] w fun e w' => ∃ v0_ : Value, e = .returned (v0_) ∧ Kd.S (Kd.slice 79 k79) 61 w' w.heap.size (fun _ => True) v0_ r ∧ Below w.heap.size w w' := by
 have HR0 := Aside0.mk hr0
 have HC0 := Aside0.mk hc0
 clear hr0 hc0
 have HB := Aside0.mk (Below.refl w.heap.size w)
 have H : (impl_copyLists.l0 k (([] : List (List (S79)))) l0 (l0.length : Int) 0) = some r := h
 clear h
 obtain ⟨y376, hy376⟩ : ∃ y_ : List (List (S79)), y_ = (([] : List (List (S79)))) := ⟨_, rfl⟩
 replace H : (impl_copyLists.l0 k y376 l0 (l0.length : Int) 0) = some r := by first | (rw [hy376]; with_reducible exact H) | (have H2_ := (Option.bind_some _ _).symm.trans H; rw [hy376]; with_reducible exact H2_) | (have H2_ := (Option.bind_some _ _).symm.trans H; with_reducible exact H2_) | with_reducible exact H | (rw [hy376]; exact H) | exact H
 have Ny376 := Aside0.mk hy376
 clear hy376
 have H' := Aside0.mk H
 clear H
 go_enter Try.func37, Try.ntmps37
 go_wp2_with (first | ((with_reducible refine gate_dst (N := 6) rfl ?_); refine Kd.S_lit (Kd.slice 79 k79) _ 61 ?hg (N := 6) ?hd (xs := ([] : List (List (S79)))) (inner := []) (ok := fun _ => True) (okp := fun _ => True) ?hr ?hp (fun _ hk => hk) trivial (Below.refl _ _) (Nat.le_refl _) (by simp) ?_; (case hd => rfl); (case hg => rfl); (case hr => first | (go_simp; done) | (go_simp; rfl)); (case hp => exact (Reps.none _ _)); intro v377 w2 ho3 hb hg_ hnew_; clear hg_ hnew_; (first | rw [← Ny376.out] at ho3 | (simp only [Int.reduceToNat] at ho3; rw [← Ny376.out] at ho3)); have HO378 := Aside0.mk (Kd.S_lower ho3 (bz_ HB.out)); replace HB := hs_ HB hb; clear hb ho3))
 go_loopg [3, 9] k (fun kq v3 v9 w' => ∃ (x3_1 : List (List (S79))) (x9_1 : Int), v9 = .int .i64 x9_1 ∧ Aside0 (impl_copyLists.l0 kq x3_1 l0 (l0.length : Int) x9_1 = some r) ∧ Aside0 (kq ≤ k) ∧ Aside0 (Kd.S (Kd.slice 79 k79) 61 w' w.heap.size (fun _ => True) v3 x3_1) ∧ Aside0 (Below w.heap.size w w'))
 case atStart => exact ⟨(y376), (0), ef_, H', ⟨Nat.le_refl _⟩, ⟨by (with_reducible repeat (first | apply Kd.S_alloc | apply Kd.S_drewN | apply Kd.S_drew)); exact HO378.out⟩, ⟨bb_ HB.out⟩⟩
 clear H'
 obtain ⟨x3_1, x9_1, rfl, HA, HK1, HO_3, HB⟩ := hrel
 obtain _ | k1 := gk
 ·exact absurd HA.out (by simp [impl_copyLists.l0])
 have H := HA.out
 clear HA
 simp only [impl_copyLists.l0] at H
 by_cases c4 : x9_1 < (l0.length : Int)
 rotate_left
 ·rw [if_neg c4] at H
  have c4b0 : decide (x9_1 < (l0.length : Int)) = false := decide_eq_false c4
  clear c4
  obtain rfl := Option.some.inj H
  go_wp2
  go_ret
  exact ⟨_, fin_, by (with_reducible repeat (first | apply Kd.S_alloc | apply Kd.S_drewN | apply Kd.S_drew)); exact HO_3.out, bb_ HB.out⟩
 rw [if_pos c4] at H
 have c4b0 : decide (x9_1 < (l0.length : Int)) = true := decide_eq_true c4
 clear c4
 by_cases c5 : 0 ≤ x9_1
 rotate_left
 ·rw [if_neg c5] at H
  exact absurd H (by simp)
 rw [if_pos c5] at H
 have c5b0 : decide (0 ≤ x9_1) = true := decide_eq_true c5
 clear c5
 by_cases c6 : x9_1 < (l0.length : Int)
 rotate_left
 ·rw [if_neg c6] at H
  exact absurd H (by simp)
 rw [if_pos c6] at H
 have c6b0 : decide (x9_1 < (l0.length : Int)) = true := decide_eq_true c6
 clear c6
 obtain ⟨y380, Ny380, H⟩ := bo_ H
 by_cases c7 : y380.length + (rd_L5 l0 x9_1).length < 4398046511104
 rotate_left
 ·rw [if_neg c7] at H
  exact absurd H (by simp)
 rw [if_pos c7] at H
 have LMc7 := Aside0.mk c7
 clear c7
 obtain ⟨y383, hy383⟩ : ∃ y_ : List (S79), y_ = (y380 ++ (rd_L5 l0 x9_1)) := ⟨_, rfl⟩
 replace H : (if x3_1.length < 5864062014805 then (impl_copyLists.l0 k1 (x3_1 ++ [y383]) l0 (l0.length : Int) (wrap64 (x9_1 + 1))) else (none)) = some r := by first | (rw [hy383]; with_reducible exact H) | (have H2_ := (Option.bind_some _ _).symm.trans H; rw [hy383]; with_reducible exact H2_) | (have H2_ := (Option.bind_some _ _).symm.trans H; with_reducible exact H2_) | with_reducible exact H | (rw [hy383]; exact H) | exact H
 have Ny383 := Aside0.mk hy383
 clear hy383
 by_cases c8 : x3_1.length < 5864062014805
 rotate_left
 ·rw [if_neg c8] at H
  exact absurd H (by simp)
 rw [if_pos c8] at H
 have LMc8 := Aside0.mk c8
 clear c8
 obtain ⟨y386, hy386⟩ : ∃ y_ : List (List (S79)), y_ = (x3_1 ++ [y383]) := ⟨_, rfl⟩
 replace H : (impl_copyLists.l0 k1 y386 l0 (l0.length : Int) (wrap64 (x9_1 + 1))) = some r := by first | (rw [hy386]; with_reducible exact H) | (have H2_ := (Option.bind_some _ _).symm.trans H; rw [hy386]; with_reducible exact H2_) | (have H2_ := (Option.bind_some _ _).symm.trans H; with_reducible exact H2_) | with_reducible exact H | (rw [hy386]; exact H) | exact H
 have Ny386 := Aside0.mk hy386
 clear hy386
 have H' := Aside0.mk H
 clear H
 have p379 : 0 ≤ (x9_1 : Int) := of_decide_eq_true dg_
 have q379 : x9_1 < (l0.length : Int) := of_decide_eq_true dg_
 obtain ⟨ad379, A379_0, c379_0, e379, hx379_0, hl379_0, hi379_0⟩ := at_L5 HR0.out x9_1 p379 q379
 cases e379
 replace hx379_0 := hc_ HB hx379_0
 have HR379_0 := Aside0.mk hi379_0
 have HC379_0 := Aside0.mk hl379_0
 clear hi379_0 hl379_0
 replace p379 := eq_true p379
 replace q379 := eq_true q379
 go_wp2_with (first | ((with_reducible refine gate_dst (N := 14) rfl ?_); refine Kd.R_lit k79 _ 79 ?hg (N := 14) ?hd (xs := ([] : List (S79))) (inner := []) (ok := fun _ => True) (okp := fun _ => True) ?hr ?hp (fun _ hk => hk) trivial (Below.refl _ _) (Nat.le_refl _) (by simp) ?_; (case hd => rfl); (case hg => rfl); (case hr => first | (go_simp; done) | (go_simp; rfl)); (case hp => exact (Reps.none _ _)); intro v381 w9 ho10 hb hg_ hnew_; clear hg_ hnew_; (first | rw [← Ny380.out] at ho10 | (simp only [Int.reduceToNat] at ho10; rw [← Ny380.out] at ho10)); replace HO_3 := Aside0.mk (Kd.S_elder' (sa_ HO_3.out) (Kd.R_base ho10) hb); have HO382 := Aside0.mk (Kd.R_lower ho10 (bz_ HB.out)); replace HB := hs_ HB hb; clear hb ho10) | ((with_reducible refine gate_builtin (b := .append) (xs := #[.tmp 14, .tmp 15]) rfl ?_); at_builtin; refine Kd.R_append_rows k79 (w0 := w) w.heap.size rfl (.tmp 14) (.tmp 15) 61 79 (.agg #[(.int .i64 0), (.int .i64 0), (.int .i64 0), (.bool false), (.bool false)]) 32 rfl Try.underlying61 info79 rfl (by decide) (by omega) v381 y380 (rd_L5 l0 x9_1) _ _ _ (fun _ => True) (fun _ => False) rfl rfl ?aO ?aR (fun _ _ h => h) (fun _ h => h.elim) ?aF ?aB ?aS ?aL ?_; (case aR => exact cb_ HR379_0.out HB.out); (case aB => exact (by repeat (first | (with_reducible first | exact HB.out | apply below_alloc | apply pw_below_drewN | apply below_drew1) | exact HB.out))); (case aF => exact (fun _ _ => trivial)); (case aO => exact (ra_ HO382.out)); (case aS => exact (bz_ HB.out)); (case aL => have := LMc7.out; omega); intro v384 w11 ho hb hg hat; rw [← Ny383.out] at ho; have n0_ := Aside0.mk (Kd.S_after (ok := (fun _ => True)) (sa_ HO_3.out) hg hat); have n1_ := Aside0.mk (hb); have n2_ := Aside0.mk (ho); clear HO_3; clear HB; clear HO382; have HO_3 := n0_; have HB := n1_; have HO385 := n2_; clear n0_ n1_ n2_; clear ho hb hg hat; obtain ⟨Ao13, co13, eo13⟩ := Kd.R_slice HO385.out; subst eo13) | ((with_reducible refine gate_builtin (b := .append) (xs := #[.tmp 13, .tmp 17]) rfl ?_); at_builtin; refine Kd.S_append (Kd.slice 79 k79) (w0 := w) w.heap.size rfl (.tmp 13) (.tmp 17) 36 61 (.slice none 0 0) 24 rfl Try.underlying36 info61 rfl (by decide) (by omega) u3 x3_1 y383 [.slice Ao13 y383.length co13] (fun _ => True) (fun k_ => some k_ = (.slice Ao13 y383.length co13 : Value).ownBlock) rfl rfl ?aP (fun k_ hk_ => ((Kd.R_mono (ok' := fun k_ => ((fun _ => True)) k_ ∧ some k_ ≠ (u3 : Value).ownBlock) (Kd.R_apart' (HO385.out) (Kd.S_typed HO_3.out) (by decide)) (fun k_ hk => ⟨trivial, hk.2⟩))).1 k_ hk_.symm) ?aF ?aO ?aB ?aS ?aL ?_; (case aP => exact Kd.M_row (Kd.R_mono (Kd.R_tight rfl (Kd.R_mono (ok' := fun k_ => ((fun _ => True)) k_ ∧ some k_ ≠ (u3 : Value).ownBlock) (Kd.R_apart' (HO385.out) (Kd.S_typed HO_3.out) (by decide)) (fun k_ hk => ⟨trivial, hk.2⟩))) (fun _ h_ => h_))); (case aB => exact (by repeat (first | (with_reducible first | exact HB.out | apply below_alloc | apply pw_below_drewN | apply below_drew1) | exact HB.out))); (case aF => exact (fun _ _ => trivial)); (case aO => exact (by (with_reducible repeat (first | apply Kd.S_alloc | apply Kd.S_drewN | apply Kd.S_drew)); exact Kd.S_mono HO_3.out (fun k_ hk => ⟨trivial, fun e_ => hk.2 e_⟩))); (case aS => exact (bz_ HB.out)); (case aL => have := LMc8.out; omega); intro v387 w12 ho hb hg hat; rw [← Ny386.out] at ho; have n0_ := Aside0.mk (hb); have n1_ := Aside0.mk (ho); clear HB; clear HO_3; clear HO385; have HB := n0_; have HO388 := n1_; clear n0_ n1_; clear ho hb hg hat))
 go_roundg k1
 case measure => have := HK1.out; omega
 case rel => exact ⟨(y386), (wrap64 (x9_1 + 1)), ef_, H', ⟨by have := HK1.out; omega⟩, ⟨by (with_reducible repeat (first | apply Kd.S_alloc | apply Kd.S_drewN | apply Kd.S_drew)); exact HO388.out⟩, ⟨bb_ HB.out⟩⟩

end Go.Proofs.Ytchhgfgebomegaa.PFnSends
-- thin
