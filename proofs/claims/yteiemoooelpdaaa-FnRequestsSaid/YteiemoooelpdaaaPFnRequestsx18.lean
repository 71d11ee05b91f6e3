
import Derived.Test.YteiemoooelpdaaaPFnRequestsx0
import Derived.Test.YteiemoooelpdaaaPFnRequestsx2
namespace Go.Proofs.Yteiemoooelpdaaa.PFnRequests
open Go.RowKit Go.Proofs.YteiemoooelpdaaaW.PrintWords Go.Proofs.YteiemoooelpdaaaW.PrintLast Go.Proofs.YteiemoooelpdaaaW.PrintMore
attribute [local go_sem] max2_int min2_int max_two min_two max_three min_three max_four min_four
set_option linter.unusedVariables false
set_option maxHeartbeats 8000000
set_option maxRecDepth 100000
set_option linter.unusedSimpArgs false
def impl_areFlits.l0 : Nat → List (S72) → Int → Int → Int → Int → Option (Bool)
 | 0, _, _, _, _, _ => none
 | k + 1, x7, x8, x9, x468000, x468001 => if x9 < x8 then (if 0 ≤ x9 then (if x9 < (x7.length : Int) then ((impl_isNode.f x468000 x468001 ((rd_T72 x7 x9).f1)).bind fun t470 => (if t470 = true then ((impl_inside.f ((rd_T72 x7 x9).f2) 0 1).bind fun t471 => (if t471 = true then (impl_areFlits.l0 k x7 x8 (wrap64 (x9 + 1)) x468000 x468001) else (none))) else (none))) else (none)) else (none)) else (some true)
def impl_areFlits.f (k : Nat) (a0_0 : Int) (a0_1 : Int) (l1 : List (S72)) : Option (Bool) := impl_areFlits.l0 k l1 (l1.length : Int) 0 a0_0 a0_1
theorem impl_areFlits.calls (k : Nat) (a0_0 : Int) (a0_1 : Int) (A1 : Option Addr) (c1 : Nat) (l1 : List (S72)) (r : Bool) (w : World) (hr1 : Kd.C k72 w A1 l1.length l1) (hc1 : l1.length ≤ c1) (h : impl_areFlits.f k a0_0 a0_1 l1 = some r) :
  Calls Try.prog 49 #[.agg #[.int .i64 a0_0, .int .i64 a0_1], .slice A1 l1.length c1] w fun e w' => e = .returned (.bool r) ∧ Below w.heap.size w w' := by
 have hu25 := Try.underlying25
 have hu72 := Try.underlying72
 have HR1 := am hr1
 have HC1 := am hc1
 clear hr1 hc1
 have HB := am (Below.refl w.heap.size w)
 have H : (impl_areFlits.l0 k l1 (l1.length : Int) 0 a0_0 a0_1) = some r := h
 clear h
 have H' := am H
 clear H
 go_enter Try.func49, Try.ntmps49
 go_wp2_with (first | ((with_reducible refine gate_dst (N := 2) rfl ?_); refine bx_ 2 #[.int .i64 a0_0, .int .i64 a0_1] 25 ?_; intro gb467 hg w3 hbox hb; have BK467 := am (hbox); have GW467 := gw_ hg HB; replace HB := h9_ HB hb; clear hb hbox hg))
 go_loopg [9] k (fun kq v9 w' => ∃ (x9_1 : Int), v9 = .int .i64 x9_1 ∧ Aside0 (impl_areFlits.l0 kq l1 (l1.length : Int) x9_1 a0_0 a0_1 = some r) ∧ Aside0 (kq ≤ k) ∧ Aside0 (w'.heap[gb467]? = some (.cells #[.int .i64 a0_0, .int .i64 a0_1] 25 (0, 0))) ∧ Aside0 (Below w.heap.size w w'))
 case atStart => exact ⟨(0), ef_, H', ⟨Nat.le_refl _⟩, ⟨bq_ BK467.out⟩, ⟨bb_ HB.out⟩⟩
 clear H'
 obtain ⟨x9_1, rfl, HA, HK1, BK467, HB⟩ := hrel
 obtain _ | k1 := gk
 ·exact absurd HA.out (by simp [impl_areFlits.l0])
 have H := HA.out
 clear HA
 simp only [impl_areFlits.l0] at H
 by_cases c4 : x9_1 < (l1.length : Int)
 rotate_left
 ·rw [if_neg c4] at H
  have c4b0 : decide (x9_1 < (l1.length : Int)) = false := decide_eq_false c4
  clear c4
  obtain rfl := Option.some.inj H
  go_wp2
  go_ret
  exact ⟨fin_, bb_ HB.out⟩
 rw [if_pos c4] at H
 have c4b0 : decide (x9_1 < (l1.length : Int)) = true := decide_eq_true c4
 clear c4
 by_cases c5 : 0 ≤ x9_1
 rotate_left
 ·rw [if_neg c5] at H
  exact absurd H (by simp)
 rw [if_pos c5] at H
 have c5b0 : decide (0 ≤ x9_1) = true := decide_eq_true c5
 clear c5
 by_cases c6 : x9_1 < (l1.length : Int)
 rotate_left
 ·rw [if_neg c6] at H
  exact absurd H (by simp)
 rw [if_pos c6] at H
 have c6b0 : decide (x9_1 < (l1.length : Int)) = true := decide_eq_true c6
 clear c6
 obtain ⟨t470, A7, H⟩ := bi_ H
 by_cases c8 : t470 = true
 rotate_left
 ·replace c8 := Bool.eq_false_iff.mpr c8
  subst c8
  rw [if_neg (show ¬ (false = true) by decide)] at H
  exact absurd H (by simp)
 subst c8
 rw [if_pos rfl] at H
 obtain ⟨t471, A9, H⟩ := bi_ H
 by_cases c10 : t471 = true
 rotate_left
 ·replace c10 := Bool.eq_false_iff.mpr c10
  subst c10
  rw [if_neg (show ¬ (false = true) by decide)] at H
  exact absurd H (by simp)
 subst c10
 rw [if_pos rfl] at H
 have H' := am H
 clear H
 have p468 : 0 ≤ (x9_1 : Int) := of_decide_eq_true dg_
 have q468 : x9_1 < (l1.length : Int) := of_decide_eq_true dg_
 obtain ⟨ad468, e468, hx468_0, hx468_1, hx468_2, hx468_3, hx468_4⟩ := at_T72 HR1.out x9_1 p468 q468
 cases e468
 replace hx468_0 := hc_ HB hx468_0
 replace hx468_1 := hc_ HB hx468_1
 replace hx468_2 := hc_ HB hx468_2
 replace hx468_3 := hc_ HB hx468_3
 replace hx468_4 := hc_ HB hx468_4
 replace p468 := eq_true p468
 replace q468 := eq_true q468
 go_wp2_with (first | ((with_reducible refine gate_dst (N := 6) rfl ?_); refine bx_ 6 #[.int .i64 0, .int .i64 0, .int .i64 0, .bool false, .bool false] 72 ?_; intro gb469 hg w11 hbox hb; have BK469 := am (hbox); have GW469 := gw_ hg HB; replace HB := h9_ HB hb; have NB467_469 := nl_ hg BK467; have NB469_467 := ng_ hg BK467; replace BK467 := kb_ BK467 hb; clear hb hbox hg; have hnb12 := NB469_467.out; have hnc12 := NB467_469.out; obtain ⟨hcz13_0, hcz13_1, hcz13_2, hcz13_3, hcz13_4, hfz13_0, hfz13_1, hfz13_2, hfz13_3, hfz13_4⟩ := cz5_ BK469.out; obtain ⟨hcz14_0, hcz14_1, hfz14_0, hfz14_1⟩ := cz2_ BK467.out) | ((with_reducible refine gate_callee (f := 37) rfl ?_); refine gm_ (some 16) Try.func37 #[.agg #[.int .i64 a0_0, .int .i64 a0_1], .int .i64 ((rd_T72 l1 x9_1).f1)] rfl ?_; (with_reducible refine (impl_isNode.calls a0_0 a0_1 ((rd_T72 l1 x9_1).f1) true _ A7.out).mono ?_); rintro e w15 ⟨rfl, hb⟩; refine ⟨_, rfl, ?_⟩; replace BK467 := am (blk_below (bf_ BK467.out) hb); replace BK469 := am (blk_below (g := gb469) (o := .cells #[.int .i64 ((rd_T72 l1 x9_1).f0), .int .i64 ((rd_T72 l1 x9_1).f1), .int .i64 ((rd_T72 l1 x9_1).f2), .bool ((rd_T72 l1 x9_1).f3), .bool ((rd_T72 l1 x9_1).f4)] 72 (0, 0)) (by (with_reducible repeat (first | refine blk_drewN ?_ _ | refine blk_drew ?_ | refine blk_alloc ?_ _)); refine blk_put (cs := #[.int .i64 ((rd_T72 l1 x9_1).f0), .int .i64 ((rd_T72 l1 x9_1).f1), .int .i64 ((rd_T72 l1 x9_1).f2), .bool ((rd_T72 l1 x9_1).f3), .bool false]) ?_ 4 _ rfl; (with_reducible repeat (first | refine blk_drewN ?_ _ | refine blk_drew ?_ | refine blk_alloc ?_ _)); refine blk_put (cs := #[.int .i64 ((rd_T72 l1 x9_1).f0), .int .i64 ((rd_T72 l1 x9_1).f1), .int .i64 ((rd_T72 l1 x9_1).f2), .bool false, .bool false]) ?_ 3 _ rfl; (with_reducible repeat (first | refine blk_drewN ?_ _ | refine blk_drew ?_ | refine blk_alloc ?_ _)); refine blk_put (cs := #[.int .i64 ((rd_T72 l1 x9_1).f0), .int .i64 ((rd_T72 l1 x9_1).f1), .int .i64 0, .bool false, .bool false]) ?_ 2 _ rfl; (with_reducible repeat (first | refine blk_drewN ?_ _ | refine blk_drew ?_ | refine blk_alloc ?_ _)); refine blk_put (cs := #[.int .i64 ((rd_T72 l1 x9_1).f0), .int .i64 0, .int .i64 0, .bool false, .bool false]) ?_ 1 _ rfl; (with_reducible repeat (first | refine blk_drewN ?_ _ | refine blk_drew ?_ | refine blk_alloc ?_ _)); refine blk_put (cs := #[.int .i64 0, .int .i64 0, .int .i64 0, .bool false, .bool false]) ?_ 0 _ rfl; (with_reducible repeat (first | refine blk_drewN ?_ _ | refine blk_drew ?_ | refine blk_alloc ?_ _)); exact BK469.out) hb); replace HB := h9_ HB hb; (try clear hb); obtain ⟨hcz16_0, hcz16_1, hcz16_2, hcz16_3, hcz16_4, hfz16_0, hfz16_1, hfz16_2, hfz16_3, hfz16_4⟩ := cz5_ BK469.out) | (go_at_call 22; (with_reducible refine (impl_inside.calls ((rd_T72 l1 x9_1).f2) 0 1 true _ A9.out).mono ?_); rintro e w' ⟨rfl, ⟨nd, rfl⟩⟩))
 go_roundg k1
 case measure => have := HK1.out; omega
 case rel => exact ⟨(wrap64 (x9_1 + 1)), ef_, H', ⟨by have := HK1.out; omega⟩, ⟨bq_ BK467.out⟩, ⟨bb_ HB.out⟩⟩
def impl_areInside.l0 : Nat → Int → Int → List Int → Int → Int → Option (Bool)
 | 0, _, _, _, _, _ => none
 | k + 1, x1, x2, x9, x10, x11 => if x11 < x10 then (if 0 ≤ x11 then (if x11 < (x9.length : Int) then ((impl_inside.f (rd x9 x11) x1 x2).bind fun t473 => (if t473 = true then (impl_areInside.l0 k x1 x2 x9 x10 (wrap64 (x11 + 1))) else (none))) else (none)) else (none)) else (some true)
def impl_areInside.f (k : Nat) (l0 : List Int) (a1 : Int) (a2 : Int) : Option (Bool) := impl_areInside.l0 k a1 a2 l0 (l0.length : Int) 0
theorem impl_areInside.calls (k : Nat) (A0 : Option Addr) (c0 : Nat) (l0 : List Int) (a1 : Int) (a2 : Int) (r : Bool) (w : World) (hr0 : Kd.C (Kd.int .i64) w A0 l0.length l0) (hc0 : l0.length ≤ c0) (h : impl_areInside.f k l0 a1 a2 = some r) :
  Calls Try.prog 50 #[.slice A0 l0.length c0, .int .i64 a1, .int .i64 a2] w fun e w' => e = .returned (.bool r) ∧ Drawn0 w w' := by
 have HR0 := am hr0
 have HC0 := am hc0
 clear hr0 hc0
 have H : (impl_areInside.l0 k a1 a2 l0 (l0.length : Int) 0) = some r := h
 clear h
 have H' := am H
 clear H
 go_enter Try.func50, Try.ntmps50
 go_wp2
 go_loopg [11] k (fun kq v11 w' => ∃ (x11_1 : Int), v11 = .int .i64 x11_1 ∧ Aside0 (impl_areInside.l0 kq a1 a2 l0 (l0.length : Int) x11_1 = some r) ∧ Aside0 (kq ≤ k) ∧ Drawn0 w w')
 case atStart => exact ⟨(0), ef_, H', ⟨Nat.le_refl _⟩, by repeat (first | exact Drawn0.refl _ | apply Drawn0.step)⟩
 clear H'
 obtain ⟨x11_1, rfl, HA, HK1, ⟨m1, rfl⟩⟩ := hrel
 obtain _ | k1 := gk
 ·exact absurd HA.out (by simp [impl_areInside.l0])
 have H := HA.out
 clear HA
 simp only [impl_areInside.l0] at H
 by_cases c4 : x11_1 < (l0.length : Int)
 rotate_left
 ·rw [if_neg c4] at H
  have c4b0 : decide (x11_1 < (l0.length : Int)) = false := decide_eq_false c4
  clear c4
  obtain rfl := Option.some.inj H
  go_wp2
  go_ret
  exact ⟨by first | rfl | (simp; done) | (simp [*]; done), by repeat (first | exact Drawn0.refl _ | apply Drawn0.step)⟩
 rw [if_pos c4] at H
 have c4b0 : decide (x11_1 < (l0.length : Int)) = true := decide_eq_true c4
 clear c4
 by_cases c5 : 0 ≤ x11_1
 rotate_left
 ·rw [if_neg c5] at H
  exact absurd H (by simp)
 rw [if_pos c5] at H
 have c5b0 : decide (0 ≤ x11_1) = true := decide_eq_true c5
 clear c5
 by_cases c6 : x11_1 < (l0.length : Int)
 rotate_left
 ·rw [if_neg c6] at H
  exact absurd H (by simp)
 rw [if_pos c6] at H
 have c6b0 : decide (x11_1 < (l0.length : Int)) = true := decide_eq_true c6
 clear c6
 obtain ⟨t473, A7, H⟩ := bi_ H
 by_cases c8 : t473 = true
 rotate_left
 ·replace c8 := Bool.eq_false_iff.mpr c8
  subst c8
  rw [if_neg (show ¬ (false = true) by decide)] at H
  exact absurd H (by simp)
 subst c8
 rw [if_pos rfl] at H
 have H' := am H
 clear H
 have p472 : 0 ≤ (x11_1 : Int) := of_decide_eq_true dg_
 have q472 : x11_1 < (l0.length : Int) := of_decide_eq_true dg_
 obtain ⟨ad472, e472, hx472_0⟩ := Kd.at_int HR0.out x11_1 p472 q472
 cases e472
 replace p472 := eq_true p472
 replace q472 := eq_true q472
 go_wp2_with (first | ((with_reducible refine gate_callee (f := 22) rfl ?_); refine gm_ (some 18) Try.func22 #[.int .i64 (rd l0 x11_1), .int .i64 a1, .int .i64 a2] rfl ?_; (with_reducible refine (impl_inside.calls (rd l0 x11_1) a1 a2 true _ A7.out).mono ?_); rintro e w' ⟨rfl, ⟨nd, rfl⟩⟩; refine ⟨_, rfl, ?_⟩))
 go_roundg k1
 case measure => have := HK1.out; omega
 case rel => exact ⟨(wrap64 (x11_1 + 1)), ef_, H', ⟨by have := HK1.out; omega⟩, by repeat (first | exact Drawn0.refl _ | apply Drawn0.step)⟩
end Go.Proofs.Yteiemoooelpdaaa.PFnRequests
-- thin
