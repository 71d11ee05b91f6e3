/- The law's functions as plain functions, and their calls. No condition. -/
import Derived.Test.YtchhgfgebomegaaPFnSendsx0
import Derived.Test.YtchhgfgebomegaaPFnSendsx4
namespace Go.Proofs.Ytchhgfgebomegaa.PFnSends
open Go.RowKit Go.Proofs.YtchhgfgebomegaaW.PrintWords Go.Proofs.YtchhgfgebomegaaW.PrintLast Go.Proofs.YtchhgfgebomegaaW.PrintMore
attribute [local go_sem] max2_int min2_int max_two min_two max_three min_three max_four min_four
set_option linter.unusedVariables false
set_option maxHeartbeats 8000000
set_option maxRecDepth 100000
set_option linter.unusedSimpArgs false

/-! ### impl_ClassOnly: function 24 -/
def impl_ClassOnly.l0 : Nat → Int → List (S79) → List (S79) → Int → Int → Option ((List (S79)))
 | 0, _, _, _, _, _ => none
 | k + 1, x1, x5, x9, x10, x11 => if x11 < x10 then (if 0 ≤ x11 then (if x11 < (x9.length : Int) then (if ((rd_T79 x9 x11).f2) = x1 then (if x5.length < 4398046511104 then (impl_ClassOnly.l0 k x1 (x5 ++ [(⟨(rd_T79 x9 x11).f0, (rd_T79 x9 x11).f1, (rd_T79 x9 x11).f2, (rd_T79 x9 x11).f3, (rd_T79 x9 x11).f4⟩ : S79)]) x9 x10 (wrap64 (x11 + 1))) else (none)) else (impl_ClassOnly.l0 k x1 x5 x9 x10 (wrap64 (x11 + 1)))) else (none)) else (none)) else (some x5)
def impl_ClassOnly.f (k : Nat) (l0 : List (S79)) (a1 : Int) : Option ((List (S79))) := impl_ClassOnly.l0 k a1 (([] : List (S79))) l0 (l0.length : Int) 0
theorem impl_ClassOnly.mono_l : ∀ k, (∀ y0 y1 y2 y3 y4, LeO (impl_ClassOnly.l0 k y0 y1 y2 y3 y4) (impl_ClassOnly.l0 (k + 1) y0 y1 y2 y3 y4))
 | 0 => fun _ _ _ _ _ r h => by simp [impl_ClassOnly.l0] at h
 | k + 1 => by
  have ih0 := impl_ClassOnly.mono_l k
  ·intro y0 y1 y2 y3 y4
   unfold impl_ClassOnly.l0
   repeat' (with_reducible first | exact ih0 .. | exact LeO.refl .. | exact LeO.none .. | refine LeO.ite ?_ ?_ | refine LeO.bind ?_ (fun _ => ?_))
theorem impl_ClassOnly.mono : ∀ a0 a1 k, LeO (impl_ClassOnly.f k a0 a1) (impl_ClassOnly.f (k + 1) a0 a1) := by
 intro a0 a1 k
 have ih0 := impl_ClassOnly.mono_l k
 unfold impl_ClassOnly.f
 repeat' (with_reducible first | exact ih0 .. | exact LeO.refl .. | exact LeO.none .. | refine LeO.ite ?_ ?_ | refine LeO.bind ?_ (fun _ => ?_))
theorem impl_ClassOnly.calls (k : Nat) (A0 : Option Addr) (c0 : Nat) (l0 : List (S79)) (a1 : Int) (r : List (S79)) (w : World) (hr0 : Kd.C k79 w A0 l0.length l0) (hc0 : l0.length ≤ c0) (h : impl_ClassOnly.f k l0 a1 = some r) :
  Calls Try.prog 24 #[.slice A0 l0.length c0, .int .i64 a1] w fun e w' => ∃ v0_ : Value, e = .returned (v0_) ∧ Kd.R k79 79 w' w.heap.size (fun _ => True) v0_ r ∧ Below w.heap.size w w' := by
 have hu79 := Try.underlying79
 have HR0 := Aside0.mk hr0
 have HC0 := Aside0.mk hc0
 clear hr0 hc0
 have HB := Aside0.mk (Below.refl w.heap.size w)
 have H : (impl_ClassOnly.l0 k a1 (([] : List (S79))) l0 (l0.length : Int) 0) = some r := h
 clear h
 obtain ⟨y340, hy340⟩ : ∃ y_ : List (S79), y_ = (([] : List (S79))) := ⟨_, rfl⟩
 replace H : (impl_ClassOnly.l0 k a1 y340 l0 (l0.length : Int) 0) = some r := by first | (rw [hy340]; with_reducible exact H) | (have H2_ := (Option.bind_some _ _).symm.trans H; rw [hy340]; with_reducible exact H2_) | (have H2_ := (Option.bind_some _ _).symm.trans H; with_reducible exact H2_) | with_reducible exact H | (rw [hy340]; exact H) | exact H
 have Ny340 := Aside0.mk hy340
 clear hy340
 have H' := Aside0.mk H
 clear H
 go_enter Try.func24, Try.ntmps24
 go_wp2_with (first | ((with_reducible refine gate_dst (N := 8) rfl ?_); refine Kd.R_lit k79 _ 79 ?hg (N := 8) ?hd (xs := ([] : List (S79))) (inner := []) (ok := fun _ => True) (okp := fun _ => True) ?hr ?hp (fun _ hk => hk) trivial (Below.refl _ _) (Nat.le_refl _) (by simp) ?_; (case hd => rfl); (case hg => rfl); (case hr => first | (go_simp; done) | (go_simp; rfl)); (case hp => exact (Reps.none _ _)); intro v341 w3 ho4 hb hg_ hnew_; clear hg_ hnew_; (first | rw [← Ny340.out] at ho4 | (simp only [Int.reduceToNat] at ho4; rw [← Ny340.out] at ho4)); have HO342 := Aside0.mk (Kd.R_lower ho4 (bz_ HB.out)); replace HB := hs_ HB hb; clear hb ho4))
 go_loopg [5, 11] k (fun kq v5 v11 w' => ∃ (x5_1 : List (S79)) (x11_1 : Int), v11 = .int .i64 x11_1 ∧ Aside0 (impl_ClassOnly.l0 kq a1 x5_1 l0 (l0.length : Int) x11_1 = some r) ∧ Aside0 (kq ≤ k) ∧ Aside0 (Kd.R k79 79 w' w.heap.size (fun _ => True) v5 x5_1) ∧ Aside0 (Below w.heap.size w w'))
 case atStart => exact ⟨(y340), (0), ef_, H', ⟨Nat.le_refl _⟩, ⟨ra_ HO342.out⟩, ⟨bb_ HB.out⟩⟩
 clear H'
 obtain ⟨x5_1, x11_1, rfl, HA, HK1, HO_5, HB⟩ := hrel
 obtain _ | k1 := gk
 ·exact absurd HA.out (by simp [impl_ClassOnly.l0])
 have H := HA.out
 clear HA
 simp only [impl_ClassOnly.l0] at H
 by_cases c5 : x11_1 < (l0.length : Int)
 rotate_left
 ·rw [if_neg c5] at H
  have c5b0 : decide (x11_1 < (l0.length : Int)) = false := decide_eq_false c5
  clear c5
  obtain rfl := Option.some.inj H
  go_wp2
  go_ret
  exact ⟨_, fin_, ra_ HO_5.out, bb_ HB.out⟩
 rw [if_pos c5] at H
 have c5b0 : decide (x11_1 < (l0.length : Int)) = true := decide_eq_true c5
 clear c5
 by_cases c6 : 0 ≤ x11_1
 rotate_left
 ·rw [if_neg c6] at H
  exact absurd H (by simp)
 rw [if_pos c6] at H
 have c6b0 : decide (0 ≤ x11_1) = true := decide_eq_true c6
 clear c6
 by_cases c7 : x11_1 < (l0.length : Int)
 rotate_left
 ·rw [if_neg c7] at H
  exact absurd H (by simp)
 rw [if_pos c7] at H
 have c7b0 : decide (x11_1 < (l0.length : Int)) = true := decide_eq_true c7
 clear c7
 by_cases c8 : ((rd_T79 l0 x11_1).f2) = a1
 rotate_left
 ·rw [if_neg c8] at H
  have c8b0 : (((rd_T79 l0 x11_1).f2) == a1) = false := beq_eq_false_iff_ne.mpr c8
  have c8b1 : (((rd_T79 l0 x11_1).f2) != a1) = true := bne_iff_ne.mpr c8
  have H' := Aside0.mk H
  clear H
  have p343 : 0 ≤ (x11_1 : Int) := of_decide_eq_true dg_
  have q343 : x11_1 < (l0.length : Int) := of_decide_eq_true dg_
  obtain ⟨ad343, e343, hx343_0, hx343_1, hx343_2, hx343_3, hx343_4⟩ := at_T79 HR0.out x11_1 p343 q343
  cases e343
  replace hx343_0 := hc_ HB hx343_0
  replace hx343_1 := hc_ HB hx343_1
  replace hx343_2 := hc_ HB hx343_2
  replace hx343_3 := hc_ HB hx343_3
  replace hx343_4 := hc_ HB hx343_4
  replace p343 := eq_true p343
  replace q343 := eq_true q343
  go_wp2_with (first | ((with_reducible refine gate_dst (N := 7) rfl ?_); refine box_event ?hg (N := 7) ?hd (cs := #[.int .i64 0, .int .i64 0, .int .i64 0, .bool false, .bool false]) (t := 79) ?hr ?_; (case hd => rfl); (case hg => rfl); (case hr => first | (go_simp; done) | (go_simp; rfl)); intro gb344 hg w13 hbox hb; replace HO_5 := Aside0.mk (Kd.R_below (Kd.R_elderB (ra_ HO_5.out) gb344 (Nat.le_of_eq hg.symm)) hb); have BK344 := Aside0.mk (hbox); have GW344 := gw_ hg HB; have GE344 := gw_ hg HB; replace HB := hs_ HB hb; clear hb hbox hg; obtain ⟨hcz14_0, hcz14_1, hcz14_2, hcz14_3, hcz14_4, hfz14_0, hfz14_1, hfz14_2, hfz14_3, hfz14_4⟩ := cz5_ BK344.out))
  go_roundg k1
  case measure => have := HK1.out; omega
  case rel => exact ⟨(x5_1), (wrap64 (x11_1 + 1)), ef_, H', ⟨by have := HK1.out; omega⟩, ⟨rm_ (Kd.R_mono HO_5.out (fun k_ hk => (⟨hk, hk.2⟩ : _ ∧ k_ ≠ gb344))) (fun _ hk => trivial)⟩, ⟨bb_ HB.out⟩⟩
 rw [if_pos c8] at H
 have c8b0 : (((rd_T79 l0 x11_1).f2) == a1) = true := beq_iff_eq.mpr c8
 have c8b1 : (((rd_T79 l0 x11_1).f2) != a1) = false := bne_eq_false_iff_eq.mpr c8
 clear c8
 by_cases c9 : x5_1.length < 4398046511104
 rotate_left
 ·rw [if_neg c9] at H
  exact absurd H (by simp)
 rw [if_pos c9] at H
 have LMc9 := Aside0.mk c9
 clear c9
 obtain ⟨y345, hy345⟩ : ∃ y_ : List (S79), y_ = (x5_1 ++ [(⟨(rd_T79 l0 x11_1).f0, (rd_T79 l0 x11_1).f1, (rd_T79 l0 x11_1).f2, (rd_T79 l0 x11_1).f3, (rd_T79 l0 x11_1).f4⟩ : S79)]) := ⟨_, rfl⟩
 replace H : (impl_ClassOnly.l0 k1 a1 y345 l0 (l0.length : Int) (wrap64 (x11_1 + 1))) = some r := by first | (rw [hy345]; with_reducible exact H) | (have H2_ := (Option.bind_some _ _).symm.trans H; rw [hy345]; with_reducible exact H2_) | (have H2_ := (Option.bind_some _ _).symm.trans H; with_reducible exact H2_) | with_reducible exact H | (rw [hy345]; exact H) | exact H
 have Ny345 := Aside0.mk hy345
 clear hy345
 have H' := Aside0.mk H
 clear H
 have p343 : 0 ≤ (x11_1 : Int) := of_decide_eq_true dg_
 have q343 : x11_1 < (l0.length : Int) := of_decide_eq_true dg_
 obtain ⟨ad343, e343, hx343_0, hx343_1, hx343_2, hx343_3, hx343_4⟩ := at_T79 HR0.out x11_1 p343 q343
 cases e343
 replace hx343_0 := hc_ HB hx343_0
 replace hx343_1 := hc_ HB hx343_1
 replace hx343_2 := hc_ HB hx343_2
 replace hx343_3 := hc_ HB hx343_3
 replace hx343_4 := hc_ HB hx343_4
 replace p343 := eq_true p343
 replace q343 := eq_true q343
 go_wp2_with (first | ((with_reducible refine gate_dst (N := 7) rfl ?_); refine box_event ?hg (N := 7) ?hd (cs := #[.int .i64 0, .int .i64 0, .int .i64 0, .bool false, .bool false]) (t := 79) ?hr ?_; (case hd => rfl); (case hg => rfl); (case hr => first | (go_simp; done) | (go_simp; rfl)); intro gb344 hg w10 hbox hb; replace HO_5 := Aside0.mk (Kd.R_below (Kd.R_elderB (ra_ HO_5.out) gb344 (Nat.le_of_eq hg.symm)) hb); have BK344 := Aside0.mk (hbox); have GW344 := gw_ hg HB; have GE344 := gw_ hg HB; replace HB := hs_ HB hb; clear hb hbox hg; obtain ⟨hcz11_0, hcz11_1, hcz11_2, hcz11_3, hcz11_4, hfz11_0, hfz11_1, hfz11_2, hfz11_3, hfz11_4⟩ := cz5_ BK344.out) | ((with_reducible refine gate_builtin (b := .append) (xs := #[.tmp 19, .tmp 21]) rfl ?_); at_builtin; refine Kd.R_append k79 (w0 := w) w.heap.size rfl (.tmp 19) (.tmp 21) 61 79 (.agg #[(.int .i64 0), (.int .i64 0), (.int .i64 0), (.bool false), (.bool false)]) 32 rfl Try.underlying61 info79 rfl (by decide) (by omega) u5 x5_1 (⟨(rd_T79 l0 x11_1).f0, (rd_T79 l0 x11_1).f1, (rd_T79 l0 x11_1).f2, (rd_T79 l0 x11_1).f3, (rd_T79 l0 x11_1).f4⟩ : S79) [.int .i64 ((rd_T79 l0 x11_1).f0), .int .i64 ((rd_T79 l0 x11_1).f1), .int .i64 ((rd_T79 l0 x11_1).f2), .bool ((rd_T79 l0 x11_1).f3), .bool ((rd_T79 l0 x11_1).f4)] (fun k_ => k_ ≠ gb344) (fun _ => False) rfl (by first | (go_simp; done) | (go_simp; rfl)) ?aP (fun _ hk => hk.elim) ?aF ?aO ?aB ?aS ?aL ?_; (case aP => exact k79_mkM _ _ _ (⟨(rd_T79 l0 x11_1).f0, (rd_T79 l0 x11_1).f1, (rd_T79 l0 x11_1).f2, (rd_T79 l0 x11_1).f3, (rd_T79 l0 x11_1).f4⟩ : S79)); (case aB => exact (by repeat (first | (with_reducible first | exact HB.out | apply below_alloc | apply pw_below_drewN | apply below_drew1 | refine below_set ?_ GE344.out) | exact HB.out))); (case aF => exact (fun k_ hk => Kd.freshB (g := gb344) (o := .cells #[.int .i64 ((rd_T79 l0 x11_1).f0), .int .i64 ((rd_T79 l0 x11_1).f1), .int .i64 ((rd_T79 l0 x11_1).f2), .bool ((rd_T79 l0 x11_1).f3), .bool ((rd_T79 l0 x11_1).f4)] 79 (0, 0)) (by (with_reducible repeat (first | refine blk_drewN ?_ _ | refine blk_drew ?_ | refine blk_alloc ?_ _)); refine blk_put (cs := #[.int .i64 ((rd_T79 l0 x11_1).f0), .int .i64 ((rd_T79 l0 x11_1).f1), .int .i64 ((rd_T79 l0 x11_1).f2), .bool ((rd_T79 l0 x11_1).f3), .bool false]) ?_ 4 _ rfl; (with_reducible repeat (first | refine blk_drewN ?_ _ | refine blk_drew ?_ | refine blk_alloc ?_ _)); refine blk_put (cs := #[.int .i64 ((rd_T79 l0 x11_1).f0), .int .i64 ((rd_T79 l0 x11_1).f1), .int .i64 ((rd_T79 l0 x11_1).f2), .bool false, .bool false]) ?_ 3 _ rfl; (with_reducible repeat (first | refine blk_drewN ?_ _ | refine blk_drew ?_ | refine blk_alloc ?_ _)); refine blk_put (cs := #[.int .i64 ((rd_T79 l0 x11_1).f0), .int .i64 ((rd_T79 l0 x11_1).f1), .int .i64 0, .bool false, .bool false]) ?_ 2 _ rfl; (with_reducible repeat (first | refine blk_drewN ?_ _ | refine blk_drew ?_ | refine blk_alloc ?_ _)); refine blk_put (cs := #[.int .i64 ((rd_T79 l0 x11_1).f0), .int .i64 0, .int .i64 0, .bool false, .bool false]) ?_ 1 _ rfl; (with_reducible repeat (first | refine blk_drewN ?_ _ | refine blk_drew ?_ | refine blk_alloc ?_ _)); refine blk_put (cs := #[.int .i64 0, .int .i64 0, .int .i64 0, .bool false, .bool false]) ?_ 0 _ rfl; (with_reducible repeat (first | refine blk_drewN ?_ _ | refine blk_drew ?_ | refine blk_alloc ?_ _)); exact BK344.out) k_ hk)); (case aO => exact (rm_ (Kd.R_mono HO_5.out (fun k_ hk => (⟨hk, hk.2⟩ : _ ∧ k_ ≠ gb344))) (fun _ hk => hk.1.2))); (case aS => exact (bz_ HB.out)); (case aL => have := LMc9.out; omega); intro v346 w12 ho hb hg hat; rw [← Ny345.out] at ho; have n0_ := Aside0.mk (blk_grown (g := gb344) (o := .cells #[.int .i64 ((rd_T79 l0 x11_1).f0), .int .i64 ((rd_T79 l0 x11_1).f1), .int .i64 ((rd_T79 l0 x11_1).f2), .bool ((rd_T79 l0 x11_1).f3), .bool ((rd_T79 l0 x11_1).f4)] 79 (0, 0)) (by (with_reducible repeat (first | refine blk_drewN ?_ _ | refine blk_drew ?_ | refine blk_alloc ?_ _)); refine blk_put (cs := #[.int .i64 ((rd_T79 l0 x11_1).f0), .int .i64 ((rd_T79 l0 x11_1).f1), .int .i64 ((rd_T79 l0 x11_1).f2), .bool ((rd_T79 l0 x11_1).f3), .bool false]) ?_ 4 _ rfl; (with_reducible repeat (first | refine blk_drewN ?_ _ | refine blk_drew ?_ | refine blk_alloc ?_ _)); refine blk_put (cs := #[.int .i64 ((rd_T79 l0 x11_1).f0), .int .i64 ((rd_T79 l0 x11_1).f1), .int .i64 ((rd_T79 l0 x11_1).f2), .bool false, .bool false]) ?_ 3 _ rfl; (with_reducible repeat (first | refine blk_drewN ?_ _ | refine blk_drew ?_ | refine blk_alloc ?_ _)); refine blk_put (cs := #[.int .i64 ((rd_T79 l0 x11_1).f0), .int .i64 ((rd_T79 l0 x11_1).f1), .int .i64 0, .bool false, .bool false]) ?_ 2 _ rfl; (with_reducible repeat (first | refine blk_drewN ?_ _ | refine blk_drew ?_ | refine blk_alloc ?_ _)); refine blk_put (cs := #[.int .i64 ((rd_T79 l0 x11_1).f0), .int .i64 0, .int .i64 0, .bool false, .bool false]) ?_ 1 _ rfl; (with_reducible repeat (first | refine blk_drewN ?_ _ | refine blk_drew ?_ | refine blk_alloc ?_ _)); refine blk_put (cs := #[.int .i64 0, .int .i64 0, .int .i64 0, .bool false, .bool false]) ?_ 0 _ rfl; (with_reducible repeat (first | refine blk_drewN ?_ _ | refine blk_drew ?_ | refine blk_alloc ?_ _)); exact BK344.out) hg (Kd.R_away HO_5.out (fun _ hk => hk.2))); have n1_ := Aside0.mk (hb); have n2_ := Aside0.mk (ho); clear BK344; clear HB; clear HO_5; have BK344 := n0_; have HB := n1_; have HO347 := n2_; clear n0_ n1_ n2_; clear ho hb hg hat))
 go_roundg k1
 case measure => have := HK1.out; omega
 case rel => exact ⟨(y345), (wrap64 (x11_1 + 1)), ef_, H', ⟨by have := HK1.out; omega⟩, ⟨by (with_reducible repeat (first | apply Kd.R_alloc | apply Kd.R_drewN | apply Kd.R_drew)); exact Kd.R_mono HO347.out (fun _ hk => trivial)⟩, ⟨bb_ HB.out⟩⟩

/-! ### impl_areFlits: function 25 -/
def impl_areFlits.l0 : Nat → List (S79) → Int → Int → Int → Int → Option (Bool)
 | 0, _, _, _, _, _ => none
 | k + 1, x7, x8, x9, x349000, x349001 => if x9 < x8 then (if 0 ≤ x9 then (if x9 < (x7.length : Int) then ((impl_isNode.f x349000 x349001 ((rd_T79 x7 x9).f1)).bind fun t351 => (if t351 = true then ((impl_inside.f ((rd_T79 x7 x9).f2) 0 1).bind fun t352 => (if t352 = true then (impl_areFlits.l0 k x7 x8 (wrap64 (x9 + 1)) x349000 x349001) else (some false))) else (some false))) else (none)) else (none)) else (some true)
def impl_areFlits.f (k : Nat) (a0_0 : Int) (a0_1 : Int) (l1 : List (S79)) : Option (Bool) := impl_areFlits.l0 k l1 (l1.length : Int) 0 a0_0 a0_1
theorem impl_areFlits.mono_l : ∀ k, (∀ y0 y1 y2 y3 y4, LeO (impl_areFlits.l0 k y0 y1 y2 y3 y4) (impl_areFlits.l0 (k + 1) y0 y1 y2 y3 y4))
 | 0 => fun _ _ _ _ _ r h => by simp [impl_areFlits.l0] at h
 | k + 1 => by
  have ih0 := impl_areFlits.mono_l k
  ·intro y0 y1 y2 y3 y4
   unfold impl_areFlits.l0
   repeat' (with_reducible first | exact ih0 .. | exact LeO.refl .. | exact LeO.none .. | refine LeO.ite ?_ ?_ | refine LeO.bind ?_ (fun _ => ?_))
theorem impl_areFlits.mono : ∀ a0 a1 a2 k, LeO (impl_areFlits.f k a0 a1 a2) (impl_areFlits.f (k + 1) a0 a1 a2) := by
 intro a0 a1 a2 k
 have ih0 := impl_areFlits.mono_l k
 unfold impl_areFlits.f
 repeat' (with_reducible first | exact ih0 .. | exact LeO.refl .. | exact LeO.none .. | refine LeO.ite ?_ ?_ | refine LeO.bind ?_ (fun _ => ?_))
theorem impl_areFlits.e0 {P : Prop} (h : P := by
 go_wp2_with (first | ((with_reducible refine gate_dst (N := 6) rfl ?_); refine box_event ?hg (N := 6) ?hd (cs := #[.int .i64 0, .int .i64 0, .int .i64 0, .bool false, .bool false]) (t := 79) ?hr ?_; (case hd => rfl); (case hg => rfl); (case hr => first | (go_simp; done) | (go_simp; rfl)); intro gb350 hg w_0 hbox hb; have BK350 := Aside0.mk (hbox); have GW350 := gw_ hg HB; have GE350 := gw_ hg HB; replace HB := hs_ HB hb; have NB348_350 := nl_ hg BK348; have NB350_348 := ng_ hg BK348; replace BK348 := kb_ BK348 hb; clear hb hbox hg; have hnb_ := NB350_348.out; have hnc_ := NB348_350.out; obtain ⟨hcz_0, hcz_1, hcz_2, hcz_3, hcz_4, hfz_0, hfz_1, hfz_2, hfz_3, hfz_4⟩ := cz5_ BK350.out; obtain ⟨hcz__0, hcz__1, hfz__0, hfz__1⟩ := cz2_ BK348.out) | ((with_reducible refine gate_callee (f := 39) rfl ?_); refine gm_ (some 16) Try.func39 #[.agg #[.int .i64 a0_0, .int .i64 a0_1], .int .i64 ((rd_T79 l1 x9_1).f1)] rfl ?_; (with_reducible refine (impl_isNode.calls a0_0 a0_1 ((rd_T79 l1 x9_1).f1) _ _ A7.out).mono ?_); rintro e w_0 ⟨rfl, hb⟩; refine ⟨_, rfl, ?_⟩; replace BK348 := Aside0.mk (blk_below (bf_ BK348.out) hb); replace BK350 := Aside0.mk (blk_below (g := gb350) (o := .cells #[.int .i64 ((rd_T79 l1 x9_1).f0), .int .i64 ((rd_T79 l1 x9_1).f1), .int .i64 ((rd_T79 l1 x9_1).f2), .bool ((rd_T79 l1 x9_1).f3), .bool ((rd_T79 l1 x9_1).f4)] 79 (0, 0)) (by (with_reducible repeat (first | refine blk_drewN ?_ _ | refine blk_drew ?_ | refine blk_alloc ?_ _)); refine blk_put (cs := #[.int .i64 ((rd_T79 l1 x9_1).f0), .int .i64 ((rd_T79 l1 x9_1).f1), .int .i64 ((rd_T79 l1 x9_1).f2), .bool ((rd_T79 l1 x9_1).f3), .bool false]) ?_ 4 _ rfl; (with_reducible repeat (first | refine blk_drewN ?_ _ | refine blk_drew ?_ | refine blk_alloc ?_ _)); refine blk_put (cs := #[.int .i64 ((rd_T79 l1 x9_1).f0), .int .i64 ((rd_T79 l1 x9_1).f1), .int .i64 ((rd_T79 l1 x9_1).f2), .bool false, .bool false]) ?_ 3 _ rfl; (with_reducible repeat (first | refine blk_drewN ?_ _ | refine blk_drew ?_ | refine blk_alloc ?_ _)); refine blk_put (cs := #[.int .i64 ((rd_T79 l1 x9_1).f0), .int .i64 ((rd_T79 l1 x9_1).f1), .int .i64 0, .bool false, .bool false]) ?_ 2 _ rfl; (with_reducible repeat (first | refine blk_drewN ?_ _ | refine blk_drew ?_ | refine blk_alloc ?_ _)); refine blk_put (cs := #[.int .i64 ((rd_T79 l1 x9_1).f0), .int .i64 0, .int .i64 0, .bool false, .bool false]) ?_ 1 _ rfl; (with_reducible repeat (first | refine blk_drewN ?_ _ | refine blk_drew ?_ | refine blk_alloc ?_ _)); refine blk_put (cs := #[.int .i64 0, .int .i64 0, .int .i64 0, .bool false, .bool false]) ?_ 0 _ rfl; (with_reducible repeat (first | refine blk_drewN ?_ _ | refine blk_drew ?_ | refine blk_alloc ?_ _)); exact BK350.out) hb); replace HB := hs_ HB hb; (try clear hb); obtain ⟨hcz_0, hcz_1, hcz_2, hcz_3, hcz_4, hfz_0, hfz_1, hfz_2, hfz_3, hfz_4⟩ := cz5_ BK350.out) | (go_at_call 27; (with_reducible refine (impl_inside.calls ((rd_T79 l1 x9_1).f2) 0 1 _ _ A9.out).mono ?_); rintro e w' ⟨rfl, ⟨nd, rfl⟩⟩))
 go_ret
 exact ⟨fin_, bb_ HB.out⟩) : P := h
theorem impl_areFlits.calls (k : Nat) (a0_0 : Int) (a0_1 : Int) (A1 : Option Addr) (c1 : Nat) (l1 : List (S79)) (r : Bool) (w : World) (hr1 : Kd.C k79 w A1 l1.length l1) (hc1 : l1.length ≤ c1) (h : impl_areFlits.f k a0_0 a0_1 l1 = some r) :
  Calls Try.prog 25 #[.agg #[.int .i64 a0_0, .int .i64 a0_1], .slice A1 l1.length c1] w fun e w' => e = .returned (.bool r) ∧ Below w.heap.size w w' := by
 have hu25 := Try.underlying25
 have hu79 := Try.underlying79
 have HR1 := Aside0.mk hr1
 have HC1 := Aside0.mk hc1
 clear hr1 hc1
 have HB := Aside0.mk (Below.refl w.heap.size w)
 have H : (impl_areFlits.l0 k l1 (l1.length : Int) 0 a0_0 a0_1) = some r := h
 clear h
 have H' := Aside0.mk H
 clear H
 go_enter Try.func25, Try.ntmps25
 go_wp2_with (first | ((with_reducible refine gate_dst (N := 2) rfl ?_); refine box_event ?hg (N := 2) ?hd (cs := #[.int .i64 a0_0, .int .i64 a0_1]) (t := 25) ?hr ?_; (case hd => rfl); (case hg => rfl); (case hr => first | (go_simp; done) | (go_simp; rfl)); intro gb348 hg w3 hbox hb; have BK348 := Aside0.mk (hbox); have GW348 := gw_ hg HB; have GE348 := gw_ hg HB; replace HB := hs_ HB hb; clear hb hbox hg))
 go_loopg [9] k (fun kq v9 w' => ∃ (x9_1 : Int), v9 = .int .i64 x9_1 ∧ Aside0 (impl_areFlits.l0 kq l1 (l1.length : Int) x9_1 a0_0 a0_1 = some r) ∧ Aside0 (kq ≤ k) ∧ Aside0 (w'.heap[gb348]? = some (.cells #[.int .i64 a0_0, .int .i64 a0_1] 25 (0, 0))) ∧ Aside0 (Below w.heap.size w w'))
 case atStart => exact ⟨(0), ef_, H', ⟨Nat.le_refl _⟩, ⟨bq_ BK348.out⟩, ⟨bb_ HB.out⟩⟩
 clear H'
 obtain ⟨x9_1, rfl, HA, HK1, BK348, HB⟩ := hrel
 obtain _ | k1 := gk
 ·exact absurd HA.out (by simp [impl_areFlits.l0])
 have H := HA.out
 clear HA
 simp only [impl_areFlits.l0] at H
 by_cases c4 : x9_1 < (l1.length : Int)
 rotate_left
 ·rw [if_neg c4] at H
  have c4b0 : decide (x9_1 < (l1.length : Int)) = false := decide_eq_false c4
  clear c4
  obtain rfl := Option.some.inj H
  exact impl_areFlits.e0
 rw [if_pos c4] at H
 have c4b0 : decide (x9_1 < (l1.length : Int)) = true := decide_eq_true c4
 clear c4
 by_cases c5 : 0 ≤ x9_1
 rotate_left
 ·rw [if_neg c5] at H
  exact absurd H (by simp)
 rw [if_pos c5] at H
 have c5b0 : decide (0 ≤ x9_1) = true := decide_eq_true c5
 clear c5
 by_cases c6 : x9_1 < (l1.length : Int)
 rotate_left
 ·rw [if_neg c6] at H
  exact absurd H (by simp)
 rw [if_pos c6] at H
 have c6b0 : decide (x9_1 < (l1.length : Int)) = true := decide_eq_true c6
 clear c6
 obtain ⟨t351, A7, H⟩ := bi_ H
 by_cases c8 : t351 = true
 rotate_left
 ·replace c8 := Bool.eq_false_iff.mpr c8
  subst c8
  rw [if_neg (show ¬ (false = true) by decide)] at H
  obtain rfl := Option.some.inj H
  have p349 : 0 ≤ (x9_1 : Int) := of_decide_eq_true dg_
  have q349 : x9_1 < (l1.length : Int) := of_decide_eq_true dg_
  obtain ⟨ad349, e349, hx349_0, hx349_1, hx349_2, hx349_3, hx349_4⟩ := at_T79 HR1.out x9_1 p349 q349
  cases e349
  replace hx349_0 := hc_ HB hx349_0
  replace hx349_1 := hc_ HB hx349_1
  replace hx349_2 := hc_ HB hx349_2
  replace hx349_3 := hc_ HB hx349_3
  replace hx349_4 := hc_ HB hx349_4
  replace p349 := eq_true p349
  replace q349 := eq_true q349
  exact impl_areFlits.e0
 subst c8
 rw [if_pos rfl] at H
 obtain ⟨t352, A9, H⟩ := bi_ H
 by_cases c10 : t352 = true
 rotate_left
 ·replace c10 := Bool.eq_false_iff.mpr c10
  subst c10
  rw [if_neg (show ¬ (false = true) by decide)] at H
  obtain rfl := Option.some.inj H
  have p349 : 0 ≤ (x9_1 : Int) := of_decide_eq_true dg_
  have q349 : x9_1 < (l1.length : Int) := of_decide_eq_true dg_
  obtain ⟨ad349, e349, hx349_0, hx349_1, hx349_2, hx349_3, hx349_4⟩ := at_T79 HR1.out x9_1 p349 q349
  cases e349
  replace hx349_0 := hc_ HB hx349_0
  replace hx349_1 := hc_ HB hx349_1
  replace hx349_2 := hc_ HB hx349_2
  replace hx349_3 := hc_ HB hx349_3
  replace hx349_4 := hc_ HB hx349_4
  replace p349 := eq_true p349
  replace q349 := eq_true q349
  exact impl_areFlits.e0
 subst c10
 rw [if_pos rfl] at H
 have H' := Aside0.mk H
 clear H
 have p349 : 0 ≤ (x9_1 : Int) := of_decide_eq_true dg_
 have q349 : x9_1 < (l1.length : Int) := of_decide_eq_true dg_
 obtain ⟨ad349, e349, hx349_0, hx349_1, hx349_2, hx349_3, hx349_4⟩ := at_T79 HR1.out x9_1 p349 q349
 cases e349
 replace hx349_0 := hc_ HB hx349_0
 replace hx349_1 := hc_ HB hx349_1
 replace hx349_2 := hc_ HB hx349_2
 replace hx349_3 := hc_ HB hx349_3
 replace hx349_4 := hc_ HB hx349_4
 replace p349 := eq_true p349
 replace q349 := eq_true q349
 go_wp2_with (first | ((with_reducible refine gate_dst (N := 6) rfl ?_); refine box_event ?hg (N := 6) ?hd (cs := #[.int .i64 0, .int .i64 0, .int .i64 0, .bool false, .bool false]) (t := 79) ?hr ?_; (case hd => rfl); (case hg => rfl); (case hr => first | (go_simp; done) | (go_simp; rfl)); intro gb350 hg w11 hbox hb; have BK350 := Aside0.mk (hbox); have GW350 := gw_ hg HB; have GE350 := gw_ hg HB; replace HB := hs_ HB hb; have NB348_350 := nl_ hg BK348; have NB350_348 := ng_ hg BK348; replace BK348 := kb_ BK348 hb; clear hb hbox hg; have hnb12 := NB350_348.out; have hnc12 := NB348_350.out; obtain ⟨hcz13_0, hcz13_1, hcz13_2, hcz13_3, hcz13_4, hfz13_0, hfz13_1, hfz13_2, hfz13_3, hfz13_4⟩ := cz5_ BK350.out; obtain ⟨hcz14_0, hcz14_1, hfz14_0, hfz14_1⟩ := cz2_ BK348.out) | ((with_reducible refine gate_callee (f := 39) rfl ?_); refine gm_ (some 16) Try.func39 #[.agg #[.int .i64 a0_0, .int .i64 a0_1], .int .i64 ((rd_T79 l1 x9_1).f1)] rfl ?_; (with_reducible refine (impl_isNode.calls a0_0 a0_1 ((rd_T79 l1 x9_1).f1) true _ A7.out).mono ?_); rintro e w15 ⟨rfl, hb⟩; refine ⟨_, rfl, ?_⟩; replace BK348 := Aside0.mk (blk_below (bf_ BK348.out) hb); replace BK350 := Aside0.mk (blk_below (g := gb350) (o := .cells #[.int .i64 ((rd_T79 l1 x9_1).f0), .int .i64 ((rd_T79 l1 x9_1).f1), .int .i64 ((rd_T79 l1 x9_1).f2), .bool ((rd_T79 l1 x9_1).f3), .bool ((rd_T79 l1 x9_1).f4)] 79 (0, 0)) (by (with_reducible repeat (first | refine blk_drewN ?_ _ | refine blk_drew ?_ | refine blk_alloc ?_ _)); refine blk_put (cs := #[.int .i64 ((rd_T79 l1 x9_1).f0), .int .i64 ((rd_T79 l1 x9_1).f1), .int .i64 ((rd_T79 l1 x9_1).f2), .bool ((rd_T79 l1 x9_1).f3), .bool false]) ?_ 4 _ rfl; (with_reducible repeat (first | refine blk_drewN ?_ _ | refine blk_drew ?_ | refine blk_alloc ?_ _)); refine blk_put (cs := #[.int .i64 ((rd_T79 l1 x9_1).f0), .int .i64 ((rd_T79 l1 x9_1).f1), .int .i64 ((rd_T79 l1 x9_1).f2), .bool false, .bool false]) ?_ 3 _ rfl; (with_reducible repeat (first | refine blk_drewN ?_ _ | refine blk_drew ?_ | refine blk_alloc ?_ _)); refine blk_put (cs := #[.int .i64 ((rd_T79 l1 x9_1).f0), .int .i64 ((rd_T79 l1 x9_1).f1), .int .i64 0, .bool false, .bool false]) ?_ 2 _ rfl; (with_reducible repeat (first | refine blk_drewN ?_ _ | refine blk_drew ?_ | refine blk_alloc ?_ _)); refine blk_put (cs := #[.int .i64 ((rd_T79 l1 x9_1).f0), .int .i64 0, .int .i64 0, .bool false, .bool false]) ?_ 1 _ rfl; (with_reducible repeat (first | refine blk_drewN ?_ _ | refine blk_drew ?_ | refine blk_alloc ?_ _)); refine blk_put (cs := #[.int .i64 0, .int .i64 0, .int .i64 0, .bool false, .bool false]) ?_ 0 _ rfl; (with_reducible repeat (first | refine blk_drewN ?_ _ | refine blk_drew ?_ | refine blk_alloc ?_ _)); exact BK350.out) hb); replace HB := hs_ HB hb; (try clear hb); obtain ⟨hcz16_0, hcz16_1, hcz16_2, hcz16_3, hcz16_4, hfz16_0, hfz16_1, hfz16_2, hfz16_3, hfz16_4⟩ := cz5_ BK350.out) | (go_at_call 27; (with_reducible refine (impl_inside.calls ((rd_T79 l1 x9_1).f2) 0 1 true _ A9.out).mono ?_); rintro e w' ⟨rfl, ⟨nd, rfl⟩⟩))
 go_roundg k1
 case measure => have := HK1.out; omega
 case rel => exact ⟨(wrap64 (x9_1 + 1)), ef_, H', ⟨by have := HK1.out; omega⟩, ⟨bq_ BK348.out⟩, ⟨bb_ HB.out⟩⟩

/-! ### impl_areInside: function 26 -/
def impl_areInside.l0 : Nat → Int → Int → List Int → Int → Int → Option (Bool)
 | 0, _, _, _, _, _ => none
 | k + 1, x1, x2, x9, x10, x11 => if x11 < x10 then (if 0 ≤ x11 then (if x11 < (x9.length : Int) then ((impl_inside.f (rd x9 x11) x1 x2).bind fun t354 => (if t354 = true then (impl_areInside.l0 k x1 x2 x9 x10 (wrap64 (x11 + 1))) else (some false))) else (none)) else (none)) else (some true)
def impl_areInside.f (k : Nat) (l0 : List Int) (a1 : Int) (a2 : Int) : Option (Bool) := impl_areInside.l0 k a1 a2 l0 (l0.length : Int) 0
theorem impl_areInside.mono_l : ∀ k, (∀ y0 y1 y2 y3 y4, LeO (impl_areInside.l0 k y0 y1 y2 y3 y4) (impl_areInside.l0 (k + 1) y0 y1 y2 y3 y4))
 | 0 => fun _ _ _ _ _ r h => by simp [impl_areInside.l0] at h
 | k + 1 => by
  have ih0 := impl_areInside.mono_l k
  ·intro y0 y1 y2 y3 y4
   unfold impl_areInside.l0
   repeat' (with_reducible first | exact ih0 .. | exact LeO.refl .. | exact LeO.none .. | refine LeO.ite ?_ ?_ | refine LeO.bind ?_ (fun _ => ?_))
theorem impl_areInside.mono : ∀ a0 a1 a2 k, LeO (impl_areInside.f k a0 a1 a2) (impl_areInside.f (k + 1) a0 a1 a2) := by
 intro a0 a1 a2 k
 have ih0 := impl_areInside.mono_l k
 unfold impl_areInside.f
 repeat' (with_reducible first | exact ih0 .. | exact LeO.refl .. | exact LeO.none .. | refine LeO.ite ?_ ?_ | refine LeO.bind ?_ (fun _ => ?_))
theorem impl_areInside.calls (k : Nat) (A0 : Option Addr) (c0 : Nat) (l0 : List Int) (a1 : Int) (a2 : Int) (r : Bool) (w : World) (hr0 : Kd.C (Kd.int .i64) w A0 l0.length l0) (hc0 : l0.length ≤ c0) (h : impl_areInside.f k l0 a1 a2 = some r) :
  Calls Try.prog 26 #[.slice A0 l0.length c0, .int .i64 a1, .int .i64 a2] w fun e w' => e = .returned (.bool r) ∧ Drawn0 w w' := by
 have HR0 := Aside0.mk hr0
 have HC0 := Aside0.mk hc0
 clear hr0 hc0
 have H : (impl_areInside.l0 k a1 a2 l0 (l0.length : Int) 0) = some r := h
 clear h
 have H' := Aside0.mk H
 clear H
 go_enter Try.func26, Try.ntmps26
 go_wp2
 go_loopg [11] k (fun kq v11 w' => ∃ (x11_1 : Int), v11 = .int .i64 x11_1 ∧ Aside0 (impl_areInside.l0 kq a1 a2 l0 (l0.length : Int) x11_1 = some r) ∧ Aside0 (kq ≤ k) ∧ Drawn0 w w')
 case atStart => exact ⟨(0), ef_, H', ⟨Nat.le_refl _⟩, by repeat (first | exact Drawn0.refl _ | apply Drawn0.step)⟩
 clear H'
 obtain ⟨x11_1, rfl, HA, HK1, ⟨m1, rfl⟩⟩ := hrel
 obtain _ | k1 := gk
 ·exact absurd HA.out (by simp [impl_areInside.l0])
 have H := HA.out
 clear HA
 simp only [impl_areInside.l0] at H
 by_cases c4 : x11_1 < (l0.length : Int)
 rotate_left
 ·rw [if_neg c4] at H
  have c4b0 : decide (x11_1 < (l0.length : Int)) = false := decide_eq_false c4
  clear c4
  obtain rfl := Option.some.inj H
  go_wp2
  go_ret
  exact ⟨by first | rfl | (simp; done) | (simp [*]; done), by repeat (first | exact Drawn0.refl _ | apply Drawn0.step)⟩
 rw [if_pos c4] at H
 have c4b0 : decide (x11_1 < (l0.length : Int)) = true := decide_eq_true c4
 clear c4
 by_cases c5 : 0 ≤ x11_1
 rotate_left
 ·rw [if_neg c5] at H
  exact absurd H (by simp)
 rw [if_pos c5] at H
 have c5b0 : decide (0 ≤ x11_1) = true := decide_eq_true c5
 clear c5
 by_cases c6 : x11_1 < (l0.length : Int)
 rotate_left
 ·rw [if_neg c6] at H
  exact absurd H (by simp)
 rw [if_pos c6] at H
 have c6b0 : decide (x11_1 < (l0.length : Int)) = true := decide_eq_true c6
 clear c6
 obtain ⟨t354, A7, H⟩ := bi_ H
 by_cases c8 : t354 = true
 ·subst c8
  rw [if_pos rfl] at H
  have H' := Aside0.mk H
  clear H
  have p353 : 0 ≤ (x11_1 : Int) := of_decide_eq_true dg_
  have q353 : x11_1 < (l0.length : Int) := of_decide_eq_true dg_
  obtain ⟨ad353, e353, hx353_0⟩ := Kd.at_int HR0.out x11_1 p353 q353
  cases e353
  replace p353 := eq_true p353
  replace q353 := eq_true q353
  go_wp2_with (first | ((with_reducible refine gate_callee (f := 27) rfl ?_); refine gm_ (some 18) Try.func27 #[.int .i64 (rd l0 x11_1), .int .i64 a1, .int .i64 a2] rfl ?_; (with_reducible refine (impl_inside.calls (rd l0 x11_1) a1 a2 true _ A7.out).mono ?_); rintro e w' ⟨rfl, ⟨nd, rfl⟩⟩; refine ⟨_, rfl, ?_⟩))
  go_roundg k1
  case measure => have := HK1.out; omega
  case rel => exact ⟨(wrap64 (x11_1 + 1)), ef_, H', ⟨by have := HK1.out; omega⟩, by repeat (first | exact Drawn0.refl _ | apply Drawn0.step)⟩
 replace c8 := Bool.eq_false_iff.mpr c8
 subst c8
 rw [if_neg (show ¬ (false = true) by decide)] at H
 obtain rfl := Option.some.inj H
 have p353 : 0 ≤ (x11_1 : Int) := of_decide_eq_true dg_
 have q353 : x11_1 < (l0.length : Int) := of_decide_eq_true dg_
 obtain ⟨ad353, e353, hx353_0⟩ := Kd.at_int HR0.out x11_1 p353 q353
 cases e353
 replace p353 := eq_true p353
 replace q353 := eq_true q353
 go_wp2_with (first | ((with_reducible refine gate_callee (f := 27) rfl ?_); refine gm_ (some 18) Try.func27 #[.int .i64 (rd l0 x11_1), .int .i64 a1, .int .i64 a2] rfl ?_; (with_reducible refine (impl_inside.calls (rd l0 x11_1) a1 a2 false _ A7.out).mono ?_); rintro e w' ⟨rfl, ⟨nd, rfl⟩⟩; refine ⟨_, rfl, ?_⟩))
 go_ret
 exact ⟨by first | rfl | (simp; done) | (simp [*]; done), by repeat (first | exact Drawn0.refl _ | apply Drawn0.step)⟩

end Go.Proofs.Ytchhgfgebomegaa.PFnSends
-- thin
