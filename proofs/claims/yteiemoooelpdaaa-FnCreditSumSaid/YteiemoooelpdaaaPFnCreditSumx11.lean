
import Derived.Test.YteiemoooelpdaaaPFnCreditSumx0
import Derived.Test.YteiemoooelpdaaaPFnCreditSumx1
import Derived.Test.YteiemoooelpdaaaPFnCreditSumx4
import Derived.Test.YteiemoooelpdaaaPFnCreditSumx7
import Derived.Test.YteiemoooelpdaaaPFnCreditSumx8
import Derived.Test.YteiemoooelpdaaaPFnCreditSumx9
import Derived.Test.YteiemoooelpdaaaPFnCreditSumx10
namespace Go.Proofs.Yteiemoooelpdaaa.PFnCreditSum
open Go.RowKit Go.Proofs.YteiemoooelpdaaaW.PrintWords Go.Proofs.YteiemoooelpdaaaW.PrintLast Go.Proofs.YteiemoooelpdaaaW.PrintMore
attribute [local go_sem] max2_int min2_int max_two min_two max_three min_three max_four min_four
set_option linter.unusedVariables false
set_option maxHeartbeats 8000000
set_option maxRecDepth 100000
set_option linter.unusedSimpArgs false
def spec_l19Entering.l0 : Nat → List Int → Int → Int → Int → List Int → List Int → List Int → List (List (S72)) → List Int → List Int → List (List (S72)) → List (List (S72)) → Int → Option (List Int)
 | 0, _, _, _, _, _, _, _, _, _, _, _, _, _ => none
 | k + 1, x3, x4, x331000, x331001, x331002, x331003, x331004, x331005, x331006, x331007, x331008, x331009, x331010 => if x4 < (x331008.length : Int) then (if 0 ≤ x4 then (if ((rd_L4 x331008 x4).length : Int) > 0 then (if 0 < ((rd_L4 x331008 x4).length : Int) then (if 0 ≤ (wrap64 ((wrap64 ((wrap64 (10 * x4)) + 8)) + ((rd_T72 (rd_L4 x331008 x4) 0).f2))) then (if (wrap64 ((wrap64 ((wrap64 (10 * x4)) + 8)) + ((rd_T72 (rd_L4 x331008 x4) 0).f2))) < (x331005.length : Int) then (if ((rd_L4 x331005 (wrap64 ((wrap64 ((wrap64 (10 * x4)) + 8)) + ((rd_T72 (rd_L4 x331008 x4) 0).f2)))).length : Int) < 3 then (if x3.length < 17592186044416 then (spec_l19Entering.l0 k (x3 ++ [x4]) (wrap64 (x4 + 1)) x331000 x331001 x331002 x331003 x331004 x331005 x331006 x331007 x331008 x331009 x331010) else (none)) else (spec_l19Entering.l0 k x3 (wrap64 (x4 + 1)) x331000 x331001 x331002 x331003 x331004 x331005 x331006 x331007 x331008 x331009 x331010)) else (none)) else (none)) else (none)) else (spec_l19Entering.l0 k x3 (wrap64 (x4 + 1)) x331000 x331001 x331002 x331003 x331004 x331005 x331006 x331007 x331008 x331009 x331010)) else (none)) else (some x3)
def spec_l19Entering.f (k : Nat) (a0_0 : Int) (a0_1 : Int) (l0_2 : List Int) (l0_3 : List Int) (l0_4 : List Int) (l0_5 : List (List (S72))) (l0_6 : List Int) (l0_7 : List Int) (l0_8 : List (List (S72))) (l0_9 : List (List (S72))) (a0_10 : Int) : Option (List Int) := spec_l19Entering.l0 k (([] : List Int)) 0 a0_0 a0_1 l0_2 l0_3 l0_4 l0_5 l0_6 l0_7 l0_8 l0_9 a0_10
theorem spec_l19Entering.calls (k : Nat) (a0_0 : Int) (a0_1 : Int) (A0_2 : Option Addr) (c0_2 : Nat) (l0_2 : List Int) (A0_3 : Option Addr) (c0_3 : Nat) (l0_3 : List Int) (A0_4 : Option Addr) (c0_4 : Nat) (l0_4 : List Int) (A0_5 : Option Addr) (c0_5 : Nat) (l0_5 : List (List (S72))) (A0_6 : Option Addr) (c0_6 : Nat) (l0_6 : List Int) (A0_7 : Option Addr) (c0_7 : Nat) (l0_7 : List Int) (A0_8 : Option Addr) (c0_8 : Nat) (l0_8 : List (List (S72))) (A0_9 : Option Addr) (c0_9 : Nat) (l0_9 : List (List (S72))) (a0_10 : Int) (r : List Int) (w : World) (hr0_2 : Kd.C (Kd.int .i64) w A0_2 l0_2.length l0_2) (hc0_2 : l0_2.length ≤ c0_2) (hr0_3 : Kd.C (Kd.int .i64) w A0_3 l0_3.length l0_3) (hc0_3 : l0_3.length ≤ c0_3) (hr0_4 : Kd.C (Kd.int .i64) w A0_4 l0_4.length l0_4) (hc0_4 : l0_4.length ≤ c0_4) (hr0_5 : Kd.C (Kd.slice 72 k72) w A0_5 l0_5.length l0_5) (hc0_5 : l0_5.length ≤ c0_5) (hr0_6 : Kd.C (Kd.int .i64) w A0_6 l0_6.length l0_6) (hc0_6 : l0_6.length ≤ c0_6) (hr0_7 : Kd.C (Kd.int .i64) w A0_7 l0_7.length l0_7) (hc0_7 : l0_7.length ≤ c0_7) (hr0_8 : Kd.C (Kd.slice 72 k72) w A0_8 l0_8.length l0_8) (hc0_8 : l0_8.length ≤ c0_8) (hr0_9 : Kd.C (Kd.slice 72 k72) w A0_9 l0_9.length l0_9) (hc0_9 : l0_9.length ≤ c0_9) (h : spec_l19Entering.f k a0_0 a0_1 l0_2 l0_3 l0_4 l0_5 l0_6 l0_7 l0_8 l0_9 a0_10 = some r) :
  Calls Try.prog 89 #[.agg #[.int .i64 a0_0, .int .i64 a0_1, .slice A0_2 l0_2.length c0_2, .slice A0_3 l0_3.length c0_3, .slice A0_4 l0_4.length c0_4, .slice A0_5 l0_5.length c0_5, .slice A0_6 l0_6.length c0_6, .slice A0_7 l0_7.length c0_7, .slice A0_8 l0_8.length c0_8, .slice A0_9 l0_9.length c0_9, .int .i64 a0_10]] w fun e w' => ∃ v0_ : Value, e = .returned (v0_) ∧ Kd.R (Kd.int .i64) 3 w' w.heap.size (fun _ => True) v0_ r ∧ Below w.heap.size w w' := by
 have hu35 := Try.underlying35
 obtain ⟨HR0_2, HC0_2, HR0_3, HC0_3, HR0_4, HC0_4, HR0_5, HC0_5, HR0_6, HC0_6, HR0_7, HC0_7, HR0_8, HC0_8, HR0_9, HC0_9⟩ := a16_ hr0_2 hc0_2 hr0_3 hc0_3 hr0_4 hc0_4 hr0_5 hc0_5 hr0_6 hc0_6 hr0_7 hc0_7 hr0_8 hc0_8 hr0_9 hc0_9; clear hr0_2 hc0_2 hr0_3 hc0_3 hr0_4 hc0_4 hr0_5 hc0_5 hr0_6 hc0_6 hr0_7 hc0_7 hr0_8 hc0_8 hr0_9 hc0_9
 have HB := am (Below.refl w.heap.size w)
 have H : (spec_l19Entering.l0 k (([] : List Int)) 0 a0_0 a0_1 l0_2 l0_3 l0_4 l0_5 l0_6 l0_7 l0_8 l0_9 a0_10) = some r := h
 clear h
 obtain ⟨y331, hy331⟩ : ∃ y_ : List Int, y_ = (([] : List Int)) := ⟨_, rfl⟩
 replace H : (spec_l19Entering.l0 k y331 0 a0_0 a0_1 l0_2 l0_3 l0_4 l0_5 l0_6 l0_7 l0_8 l0_9 a0_10) = some r := ry_ hy331 H
 have Ny331 := am hy331
 clear hy331
 have H' := am H
 clear H
 go_enter Try.func89, Try.ntmps89
 go_wp2_with (first | ((with_reducible refine gate_dst (N := 1) rfl ?_); (try (refine gate_guard (by rfl) ?_; dsimp only)); refine bx_ 1 #[.int .i64 a0_0, .int .i64 a0_1, .slice A0_2 l0_2.length c0_2, .slice A0_3 l0_3.length c0_3, .slice A0_4 l0_4.length c0_4, .slice A0_5 l0_5.length c0_5, .slice A0_6 l0_6.length c0_6, .slice A0_7 l0_7.length c0_7, .slice A0_8 l0_8.length c0_8, .slice A0_9 l0_9.length c0_9, .int .i64 a0_10] 35 ?_; intro gb330 hg w2 hbox hb; have BK330 := am (hbox); have GW330 := gw_ hg HB; replace HB := h9_ HB hb; clear hb hbox hg) | ((with_reducible refine gate_dst (N := 5) rfl ?_); (try (refine gate_guard (by rfl) ?_; dsimp only)); refine Kd.R_lit (Kd.int .i64) _ 3 ?hg (N := 5) ?hd (xs := ([] : List Int)) (inner := []) (ok := fun _ => True) (okp := fun _ => True) ?hr ?hp (fun _ hk => hk) trivial (Below.refl _ _) (Nat.le_refl _) (by simp) ?_; (case hd => rfl); (case hg => rfl); (case hr => first | (go_simp; done) | (go_simp; rfl)); (case hp => exact (Reps.none _ _)); intro v332 w3 ho4 hb hg_ hnew_; clear hg_ hnew_; (first | rw [← Ny331.out] at ho4 | (simp only [Int.reduceToNat] at ho4; rw [← Ny331.out] at ho4)); have HO333 := am (Kd.R_lower ho4 (bz_ HB.out)); replace BK330 := kb_ BK330 hb; replace HB := h9_ HB hb; clear hb ho4))
 repeat (go_quiet (first | ((with_reducible refine gate_dst (N := 1) rfl ?_); (try (refine gate_guard (by rfl) ?_; dsimp only)); refine bx_ 1 #[.int .i64 a0_0, .int .i64 a0_1, .slice A0_2 l0_2.length c0_2, .slice A0_3 l0_3.length c0_3, .slice A0_4 l0_4.length c0_4, .slice A0_5 l0_5.length c0_5, .slice A0_6 l0_6.length c0_6, .slice A0_7 l0_7.length c0_7, .slice A0_8 l0_8.length c0_8, .slice A0_9 l0_9.length c0_9, .int .i64 a0_10] 35 ?_; intro gb330 hg w2 hbox hb; have BK330 := am (hbox); have GW330 := gw_ hg HB; replace HB := h9_ HB hb; clear hb hbox hg) | ((with_reducible refine gate_dst (N := 5) rfl ?_); (try (refine gate_guard (by rfl) ?_; dsimp only)); refine Kd.R_lit (Kd.int .i64) _ 3 ?hg (N := 5) ?hd (xs := ([] : List Int)) (inner := []) (ok := fun _ => True) (okp := fun _ => True) ?hr ?hp (fun _ hk => hk) trivial (Below.refl _ _) (Nat.le_refl _) (by simp) ?_; (case hd => rfl); (case hg => rfl); (case hr => first | (go_simp; done) | (go_simp; rfl)); (case hp => exact (Reps.none _ _)); intro v332 w3 ho4 hb hg_ hnew_; clear hg_ hnew_; (first | rw [← Ny331.out] at ho4 | (simp only [Int.reduceToNat] at ho4; rw [← Ny331.out] at ho4)); have HO333 := am (Kd.R_lower ho4 (bz_ HB.out)); replace BK330 := kb_ BK330 hb; replace HB := h9_ HB hb; clear hb ho4)); try go_wp2_with (first | ((with_reducible refine gate_dst (N := 1) rfl ?_); (try (refine gate_guard (by rfl) ?_; dsimp only)); refine bx_ 1 #[.int .i64 a0_0, .int .i64 a0_1, .slice A0_2 l0_2.length c0_2, .slice A0_3 l0_3.length c0_3, .slice A0_4 l0_4.length c0_4, .slice A0_5 l0_5.length c0_5, .slice A0_6 l0_6.length c0_6, .slice A0_7 l0_7.length c0_7, .slice A0_8 l0_8.length c0_8, .slice A0_9 l0_9.length c0_9, .int .i64 a0_10] 35 ?_; intro gb330 hg w2 hbox hb; have BK330 := am (hbox); have GW330 := gw_ hg HB; replace HB := h9_ HB hb; clear hb hbox hg) | ((with_reducible refine gate_dst (N := 5) rfl ?_); (try (refine gate_guard (by rfl) ?_; dsimp only)); refine Kd.R_lit (Kd.int .i64) _ 3 ?hg (N := 5) ?hd (xs := ([] : List Int)) (inner := []) (ok := fun _ => True) (okp := fun _ => True) ?hr ?hp (fun _ hk => hk) trivial (Below.refl _ _) (Nat.le_refl _) (by simp) ?_; (case hd => rfl); (case hg => rfl); (case hr => first | (go_simp; done) | (go_simp; rfl)); (case hp => exact (Reps.none _ _)); intro v332 w3 ho4 hb hg_ hnew_; clear hg_ hnew_; (first | rw [← Ny331.out] at ho4 | (simp only [Int.reduceToNat] at ho4; rw [← Ny331.out] at ho4)); have HO333 := am (Kd.R_lower ho4 (bz_ HB.out)); replace BK330 := kb_ BK330 hb; replace HB := h9_ HB hb; clear hb ho4)))
 go_loopg [3, 4] k (fun kq v3 v4 w' => ∃ (x3_1 : List Int) (x4_1 : Int), v4 = .int .i64 x4_1 ∧ Aside0 (spec_l19Entering.l0 kq x3_1 x4_1 a0_0 a0_1 l0_2 l0_3 l0_4 l0_5 l0_6 l0_7 l0_8 l0_9 a0_10 = some r) ∧ Aside0 (kq ≤ k) ∧ Aside0 (Kd.R (Kd.int .i64) 3 w' w.heap.size (fun _ => True) v3 x3_1) ∧ Aside0 (w'.heap[gb330]? = some (.cells #[.int .i64 a0_0, .int .i64 a0_1, (.slice A0_2 l0_2.length c0_2), (.slice A0_3 l0_3.length c0_3), (.slice A0_4 l0_4.length c0_4), (.slice A0_5 l0_5.length c0_5), (.slice A0_6 l0_6.length c0_6), (.slice A0_7 l0_7.length c0_7), (.slice A0_8 l0_8.length c0_8), (.slice A0_9 l0_9.length c0_9), .int .i64 a0_10] 35 (0, 0))) ∧ Aside0 (Below w.heap.size w w'))
 case atStart => exact ⟨(y331), (0), ef_, H', ⟨Nat.le_refl _⟩, ⟨ra_ HO333.out⟩, ⟨bq_ BK330.out⟩, ⟨bb_ HB.out⟩⟩
 clear H'
 obtain ⟨x3_1, x4_1, rfl, HA, HK1, HO_3, BK330, HB⟩ := hrel
 obtain _ | k1 := gk
 ·exact absurd HA.out (by simp [spec_l19Entering.l0])
 have H := HA.out
 clear HA
 simp only [spec_l19Entering.l0] at H
 by_cases c5 : x4_1 < (l0_8.length : Int)
 rotate_left
 ·rw [if_neg c5] at H
  have c5b0 : decide (x4_1 < (l0_8.length : Int)) = false := decide_eq_false c5
  clear c5
  obtain rfl := Option.some.inj H
  obtain ⟨hcz18_0, hcz18_1, hcz18_2, hcz18_3, hcz18_4, hcz18_5, hcz18_6, hcz18_7, hcz18_8, hcz18_9, hcz18_10, hfz18_0, hfz18_1, hfz18_2, hfz18_3, hfz18_4, hfz18_5, hfz18_6, hfz18_7, hfz18_8, hfz18_9, hfz18_10⟩ := cz11_ BK330.out
  go_wp2
  repeat (go_quiet (fail); try go_wp2)
  go_ret
  exact ⟨_, fin_, ra_ HO_3.out, bb_ HB.out⟩
 rw [if_pos c5] at H
 have c5b0 : decide (x4_1 < (l0_8.length : Int)) = true := decide_eq_true c5
 clear c5
 by_cases c6 : 0 ≤ x4_1
 rotate_left
 ·rw [if_neg c6] at H
  exact absurd H (by simp)
 rw [if_pos c6] at H
 have c6b0 : decide (0 ≤ x4_1) = true := decide_eq_true c6
 clear c6
 by_cases c7 : ((rd_L4 l0_8 x4_1).length : Int) > 0
 rotate_left
 ·rw [if_neg c7] at H
  have c7b0 : decide (0 < ((rd_L4 l0_8 x4_1).length : Int)) = false := decide_eq_false c7
  have c7b1 : decide (0 < (rd_L4 l0_8 x4_1).length) = false := decide_eq_false (by omega)
  clear c7
  have H' := am H
  clear H
  obtain ⟨hcz17_0, hcz17_1, hcz17_2, hcz17_3, hcz17_4, hcz17_5, hcz17_6, hcz17_7, hcz17_8, hcz17_9, hcz17_10, hfz17_0, hfz17_1, hfz17_2, hfz17_3, hfz17_4, hfz17_5, hfz17_6, hfz17_7, hfz17_8, hfz17_9, hfz17_10⟩ := cz11_ BK330.out
  have p334 : 0 ≤ (x4_1 : Int) := of_decide_eq_true dg_
  have q334 : x4_1 < (l0_8.length : Int) := of_decide_eq_true dg_
  obtain ⟨ad334, A334_0, c334_0, e334, hx334_0, hl334_0, hi334_0⟩ := at_L4 HR0_8.out x4_1 p334 q334
  cases e334
  replace hx334_0 := hc_ HB hx334_0
  have HR334_0 := am hi334_0
  have HC334_0 := am hl334_0
  clear hi334_0 hl334_0
  replace p334 := eq_true p334
  replace q334 := eq_true q334
  go_wp2
  repeat (go_quiet (fail); try go_wp2)
  go_roundg k1
  case measure => have := HK1.out; omega
  case rel => exact ⟨(x3_1), (wrap64 (x4_1 + 1)), ef_, H', ⟨by have := HK1.out; omega⟩, ⟨ra_ HO_3.out⟩, ⟨bq_ BK330.out⟩, ⟨bb_ HB.out⟩⟩
 rw [if_pos c7] at H
 have c7b0 : decide (0 < ((rd_L4 l0_8 x4_1).length : Int)) = true := decide_eq_true c7
 have c7b1 : decide (0 < (rd_L4 l0_8 x4_1).length) = true := decide_eq_true (by omega)
 clear c7
 by_cases c8 : 0 < ((rd_L4 l0_8 x4_1).length : Int)
 rotate_left
 ·rw [if_neg c8] at H
  exact absurd H (by simp)
 rw [if_pos c8] at H
 have c8b0 : decide (0 < ((rd_L4 l0_8 x4_1).length : Int)) = true := decide_eq_true c8
 have c8b1 : decide (0 < (rd_L4 l0_8 x4_1).length) = true := decide_eq_true (by omega)
 clear c8
 obtain ⟨ji9, hji9⟩ : ∃ j_ : Int, (wrap64 ((wrap64 ((wrap64 (10 * x4_1)) + 8)) + ((rd_T72 (rd_L4 l0_8 x4_1) 0).f2))) = j_ := ⟨_, rfl⟩
 replace H : (if 0 ≤ (ji9) then (if (ji9) < (l0_5.length : Int) then (if ((rd_L4 l0_5 (ji9)).length : Int) < 3 then (if x3_1.length < 17592186044416 then (spec_l19Entering.l0 k1 (x3_1 ++ [x4_1]) (wrap64 (x4_1 + 1)) a0_0 a0_1 l0_2 l0_3 l0_4 l0_5 l0_6 l0_7 l0_8 l0_9 a0_10) else (none)) else (spec_l19Entering.l0 k1 x3_1 (wrap64 (x4_1 + 1)) a0_0 a0_1 l0_2 l0_3 l0_4 l0_5 l0_6 l0_7 l0_8 l0_9 a0_10)) else (none)) else (none)) = some r := by first | (rw [hji9] at H; exact H) | (simp only [hji9] at H ⊢; exact H)
 have hji9w : (IntKind.i64.wrap ((wrap64 ((wrap64 (10 * x4_1)) + 8)) + ((rd_T72 (rd_L4 l0_8 x4_1) 0).f2))) = ji9 := (i64_w _).trans hji9
 by_cases c10 : 0 ≤ (ji9)
 rotate_left
 ·rw [if_neg c10] at H
  exact absurd H (by simp)
 rw [if_pos c10] at H
 have c10b0 : decide (0 ≤ (ji9)) = true := decide_eq_true c10
 clear c10
 by_cases c11 : (ji9) < (l0_5.length : Int)
 rotate_left
 ·rw [if_neg c11] at H
  exact absurd H (by simp)
 rw [if_pos c11] at H
 have c11b0 : decide ((ji9) < (l0_5.length : Int)) = true := decide_eq_true c11
 clear c11
 by_cases c12 : ((rd_L4 l0_5 (ji9)).length : Int) < 3
 rotate_left
 ·rw [if_neg c12] at H
  have c12b0 : decide (((rd_L4 l0_5 (ji9)).length : Int) < 3) = false := decide_eq_false c12
  have c12b1 : decide ((rd_L4 l0_5 (ji9)).length < 3) = false := decide_eq_false (by omega)
  clear c12
  have H' := am H
  clear H
  obtain ⟨hcz16_0, hcz16_1, hcz16_2, hcz16_3, hcz16_4, hcz16_5, hcz16_6, hcz16_7, hcz16_8, hcz16_9, hcz16_10, hfz16_0, hfz16_1, hfz16_2, hfz16_3, hfz16_4, hfz16_5, hfz16_6, hfz16_7, hfz16_8, hfz16_9, hfz16_10⟩ := cz11_ BK330.out
  have p334 : 0 ≤ (x4_1 : Int) := of_decide_eq_true dg_
  have q334 : x4_1 < (l0_8.length : Int) := of_decide_eq_true dg_
  obtain ⟨ad334, A334_0, c334_0, e334, hx334_0, hl334_0, hi334_0⟩ := at_L4 HR0_8.out x4_1 p334 q334
  cases e334
  replace hx334_0 := hc_ HB hx334_0
  have HR334_0 := am hi334_0
  have HC334_0 := am hl334_0
  clear hi334_0 hl334_0
  replace p334 := eq_true p334
  replace q334 := eq_true q334
  have p335 : 0 ≤ (x4_1 : Int) := of_decide_eq_true dg_
  have q335 : x4_1 < (l0_8.length : Int) := of_decide_eq_true dg_
  obtain ⟨ad335, A335_0, c335_0, e335, hx335_0, hl335_0, hi335_0⟩ := at_L4 HR0_8.out x4_1 p335 q335
  obtain rfl : ad334 = ad335 := (by injection e335)
  replace hx335_0 := hc_ HB hx335_0
  have HR335_0 := am hi335_0
  have HC335_0 := am hl335_0
  clear hi335_0 hl335_0
  replace p335 := eq_true p335
  replace q335 := eq_true q335
  have ea_ := Option.some.inj (hx334_0.symm.trans hx335_0)
  injection ea_ with ea_ en_ ec_
  subst ea_
  subst ec_
  clear en_
  have p336 : 0 ≤ (0 : Int) := (by omega)
  have q336 : 0 < ((rd_L4 l0_8 x4_1).length : Int) := of_decide_eq_true dg_
  obtain ⟨ad336, e336, hx336_0, hx336_1, hx336_2, hx336_3, hx336_4⟩ := at_T72 HR335_0.out 0 p336 q336
  cases e336
  have qi336 : (0 < (rd_L4 l0_8 x4_1).length) = True := eq_true (by omega)
  (try rw [show ((0 : Int)).toNat = 0 from rfl] at hx336_0)
  (try rw [show 0 * 5 = 0 from rfl] at hx336_0)
  (try rw [Addr.add_zero'] at hx336_0)
  (try rw [show ((0 : Int)).toNat = 0 from rfl] at hx336_1)
  (try rw [show 0 * 5 = 0 from rfl] at hx336_1)
  (try rw [Addr.add_zero'] at hx336_1)
  (try rw [show ((0 : Int)).toNat = 0 from rfl] at hx336_2)
  (try rw [show 0 * 5 = 0 from rfl] at hx336_2)
  (try rw [Addr.add_zero'] at hx336_2)
  (try rw [show ((0 : Int)).toNat = 0 from rfl] at hx336_3)
  (try rw [show 0 * 5 = 0 from rfl] at hx336_3)
  (try rw [Addr.add_zero'] at hx336_3)
  (try rw [show ((0 : Int)).toNat = 0 from rfl] at hx336_4)
  (try rw [show 0 * 5 = 0 from rfl] at hx336_4)
  (try rw [Addr.add_zero'] at hx336_4)
  replace hx336_0 := hc_ HB hx336_0
  replace hx336_1 := hc_ HB hx336_1
  replace hx336_2 := hc_ HB hx336_2
  replace hx336_3 := hc_ HB hx336_3
  replace hx336_4 := hc_ HB hx336_4
  replace p336 := eq_true p336
  replace q336 := eq_true q336
  have p337 : 0 ≤ ((ji9) : Int) := of_decide_eq_true dg_
  have q337 : (ji9) < (l0_5.length : Int) := of_decide_eq_true dg_
  obtain ⟨ad337, A337_0, c337_0, e337, hx337_0, hl337_0, hi337_0⟩ := at_L4 HR0_5.out (ji9) p337 q337
  cases e337
  replace hx337_0 := hc_ HB hx337_0
  have HR337_0 := am hi337_0
  have HC337_0 := am hl337_0
  clear hi337_0 hl337_0
  replace p337 := eq_true p337
  replace q337 := eq_true q337
  go_wp2
  repeat (go_quiet (fail); try go_wp2)
  go_roundg k1
  case measure => have := HK1.out; omega
  case rel => exact ⟨(x3_1), (wrap64 (x4_1 + 1)), ef_, H', ⟨by have := HK1.out; omega⟩, ⟨ra_ HO_3.out⟩, ⟨bq_ BK330.out⟩, ⟨bb_ HB.out⟩⟩
 rw [if_pos c12] at H
 have c12b0 : decide (((rd_L4 l0_5 (ji9)).length : Int) < 3) = true := decide_eq_true c12
 have c12b1 : decide ((rd_L4 l0_5 (ji9)).length < 3) = true := decide_eq_true (by omega)
 clear c12
 by_cases c13 : x3_1.length < 17592186044416
 rotate_left
 ·rw [if_neg c13] at H
  exact absurd H (by simp)
 rw [if_pos c13] at H
 have LMc13 := am c13
 clear c13
 obtain ⟨y338, hy338⟩ : ∃ y_ : List Int, y_ = (x3_1 ++ [x4_1]) := ⟨_, rfl⟩
 replace H : (spec_l19Entering.l0 k1 y338 (wrap64 (x4_1 + 1)) a0_0 a0_1 l0_2 l0_3 l0_4 l0_5 l0_6 l0_7 l0_8 l0_9 a0_10) = some r := ry_ hy338 H
 have Ny338 := am hy338
 clear hy338
 have H' := am H
 clear H
 obtain ⟨hcz14_0, hcz14_1, hcz14_2, hcz14_3, hcz14_4, hcz14_5, hcz14_6, hcz14_7, hcz14_8, hcz14_9, hcz14_10, hfz14_0, hfz14_1, hfz14_2, hfz14_3, hfz14_4, hfz14_5, hfz14_6, hfz14_7, hfz14_8, hfz14_9, hfz14_10⟩ := cz11_ BK330.out
 have p334 : 0 ≤ (x4_1 : Int) := of_decide_eq_true dg_
 have q334 : x4_1 < (l0_8.length : Int) := of_decide_eq_true dg_
 obtain ⟨ad334, A334_0, c334_0, e334, hx334_0, hl334_0, hi334_0⟩ := at_L4 HR0_8.out x4_1 p334 q334
 cases e334
 replace hx334_0 := hc_ HB hx334_0
 have HR334_0 := am hi334_0
 have HC334_0 := am hl334_0
 clear hi334_0 hl334_0
 replace p334 := eq_true p334
 replace q334 := eq_true q334
 have p335 : 0 ≤ (x4_1 : Int) := of_decide_eq_true dg_
 have q335 : x4_1 < (l0_8.length : Int) := of_decide_eq_true dg_
 obtain ⟨ad335, A335_0, c335_0, e335, hx335_0, hl335_0, hi335_0⟩ := at_L4 HR0_8.out x4_1 p335 q335
 obtain rfl : ad334 = ad335 := (by injection e335)
 replace hx335_0 := hc_ HB hx335_0
 have HR335_0 := am hi335_0
 have HC335_0 := am hl335_0
 clear hi335_0 hl335_0
 replace p335 := eq_true p335
 replace q335 := eq_true q335
 have ea_ := Option.some.inj (hx334_0.symm.trans hx335_0)
 injection ea_ with ea_ en_ ec_
 subst ea_
 subst ec_
 clear en_
 have p336 : 0 ≤ (0 : Int) := (by omega)
 have q336 : 0 < ((rd_L4 l0_8 x4_1).length : Int) := of_decide_eq_true dg_
 obtain ⟨ad336, e336, hx336_0, hx336_1, hx336_2, hx336_3, hx336_4⟩ := at_T72 HR335_0.out 0 p336 q336
 cases e336
 have qi336 : (0 < (rd_L4 l0_8 x4_1).length) = True := eq_true (by omega)
 (try rw [show ((0 : Int)).toNat = 0 from rfl] at hx336_0)
 (try rw [show 0 * 5 = 0 from rfl] at hx336_0)
 (try rw [Addr.add_zero'] at hx336_0)
 (try rw [show ((0 : Int)).toNat = 0 from rfl] at hx336_1)
 (try rw [show 0 * 5 = 0 from rfl] at hx336_1)
 (try rw [Addr.add_zero'] at hx336_1)
 (try rw [show ((0 : Int)).toNat = 0 from rfl] at hx336_2)
 (try rw [show 0 * 5 = 0 from rfl] at hx336_2)
 (try rw [Addr.add_zero'] at hx336_2)
 (try rw [show ((0 : Int)).toNat = 0 from rfl] at hx336_3)
 (try rw [show 0 * 5 = 0 from rfl] at hx336_3)
 (try rw [Addr.add_zero'] at hx336_3)
 (try rw [show ((0 : Int)).toNat = 0 from rfl] at hx336_4)
 (try rw [show 0 * 5 = 0 from rfl] at hx336_4)
 (try rw [Addr.add_zero'] at hx336_4)
 replace hx336_0 := hc_ HB hx336_0
 replace hx336_1 := hc_ HB hx336_1
 replace hx336_2 := hc_ HB hx336_2
 replace hx336_3 := hc_ HB hx336_3
 replace hx336_4 := hc_ HB hx336_4
 replace p336 := eq_true p336
 replace q336 := eq_true q336
 have p337 : 0 ≤ ((ji9) : Int) := of_decide_eq_true dg_
 have q337 : (ji9) < (l0_5.length : Int) := of_decide_eq_true dg_
 obtain ⟨ad337, A337_0, c337_0, e337, hx337_0, hl337_0, hi337_0⟩ := at_L4 HR0_5.out (ji9) p337 q337
 cases e337
 replace hx337_0 := hc_ HB hx337_0
 have HR337_0 := am hi337_0
 have HC337_0 := am hl337_0
 clear hi337_0 hl337_0
 replace p337 := eq_true p337
 replace q337 := eq_true q337
 go_wp2_with (first | ((with_reducible refine gate_builtin (b := .append) (xs := #[.tmp 40, .tmp 42]) rfl ?_); (try (refine gate_guard (by rfl) ?_; dsimp only)); at_builtin; refine Kd.R_append (Kd.int .i64) (w0 := w) w.heap.size rfl (.tmp 40) (.tmp 42) 26 3 (.int .i64 0) 8 rfl Try.underlying26 info3 rfl (by decide) (by omega) u3 x3_1 x4_1 [.int .i64 x4_1] (fun _ => True) (fun _ => False) rfl rfl ?aP (fun _ hk => hk.elim) ?aF ?aO ?aB ?aS ?aL ?_; (case aP => exact rfl); (case aB => exact (hb_ HB.out)); (case aF => exact (fun _ _ => trivial)); (case aO => exact (ra_ HO_3.out)); (case aS => exact (bz_ HB.out)); (case aL => have := LMc13.out; omega); intro v339 w15 ho hb hg hat; rw [← Ny338.out] at ho; have n0_ := am (blk_grown (g := gb330) (o := .cells #[.int .i64 a0_0, .int .i64 a0_1, .slice A0_2 l0_2.length c0_2, .slice A0_3 l0_3.length c0_3, .slice A0_4 l0_4.length c0_4, .slice (some ad337) l0_5.length c0_5, .slice A0_6 l0_6.length c0_6, .slice A0_7 l0_7.length c0_7, .slice (some ad334) l0_8.length c0_8, .slice A0_9 l0_9.length c0_9, .int .i64 a0_10] 35 (0, 0)) (bq_ BK330.out) hg (Kd.R_ne HO_3.out BK330.out (by decide))); have n1_ := am (hb); have n2_ := am (ho); clear BK330; clear HB; clear HO_3; have BK330 := n0_; have HB := n1_; have HO340 := n2_; clear n0_ n1_ n2_; clear ho hb hg hat))
 repeat (go_quiet (first | ((with_reducible refine gate_builtin (b := .append) (xs := #[.tmp 40, .tmp 42]) rfl ?_); (try (refine gate_guard (by rfl) ?_; dsimp only)); at_builtin; refine Kd.R_append (Kd.int .i64) (w0 := w) w.heap.size rfl (.tmp 40) (.tmp 42) 26 3 (.int .i64 0) 8 rfl Try.underlying26 info3 rfl (by decide) (by omega) u3 x3_1 x4_1 [.int .i64 x4_1] (fun _ => True) (fun _ => False) rfl rfl ?aP (fun _ hk => hk.elim) ?aF ?aO ?aB ?aS ?aL ?_; (case aP => exact rfl); (case aB => exact (hb_ HB.out)); (case aF => exact (fun _ _ => trivial)); (case aO => exact (ra_ HO_3.out)); (case aS => exact (bz_ HB.out)); (case aL => have := LMc13.out; omega); intro v339 w15 ho hb hg hat; rw [← Ny338.out] at ho; have n0_ := am (blk_grown (g := gb330) (o := .cells #[.int .i64 a0_0, .int .i64 a0_1, .slice A0_2 l0_2.length c0_2, .slice A0_3 l0_3.length c0_3, .slice A0_4 l0_4.length c0_4, .slice (some ad337) l0_5.length c0_5, .slice A0_6 l0_6.length c0_6, .slice A0_7 l0_7.length c0_7, .slice (some ad334) l0_8.length c0_8, .slice A0_9 l0_9.length c0_9, .int .i64 a0_10] 35 (0, 0)) (bq_ BK330.out) hg (Kd.R_ne HO_3.out BK330.out (by decide))); have n1_ := am (hb); have n2_ := am (ho); clear BK330; clear HB; clear HO_3; have BK330 := n0_; have HB := n1_; have HO340 := n2_; clear n0_ n1_ n2_; clear ho hb hg hat)); try go_wp2_with (first | ((with_reducible refine gate_builtin (b := .append) (xs := #[.tmp 40, .tmp 42]) rfl ?_); (try (refine gate_guard (by rfl) ?_; dsimp only)); at_builtin; refine Kd.R_append (Kd.int .i64) (w0 := w) w.heap.size rfl (.tmp 40) (.tmp 42) 26 3 (.int .i64 0) 8 rfl Try.underlying26 info3 rfl (by decide) (by omega) u3 x3_1 x4_1 [.int .i64 x4_1] (fun _ => True) (fun _ => False) rfl rfl ?aP (fun _ hk => hk.elim) ?aF ?aO ?aB ?aS ?aL ?_; (case aP => exact rfl); (case aB => exact (hb_ HB.out)); (case aF => exact (fun _ _ => trivial)); (case aO => exact (ra_ HO_3.out)); (case aS => exact (bz_ HB.out)); (case aL => have := LMc13.out; omega); intro v339 w15 ho hb hg hat; rw [← Ny338.out] at ho; have n0_ := am (blk_grown (g := gb330) (o := .cells #[.int .i64 a0_0, .int .i64 a0_1, .slice A0_2 l0_2.length c0_2, .slice A0_3 l0_3.length c0_3, .slice A0_4 l0_4.length c0_4, .slice (some ad337) l0_5.length c0_5, .slice A0_6 l0_6.length c0_6, .slice A0_7 l0_7.length c0_7, .slice (some ad334) l0_8.length c0_8, .slice A0_9 l0_9.length c0_9, .int .i64 a0_10] 35 (0, 0)) (bq_ BK330.out) hg (Kd.R_ne HO_3.out BK330.out (by decide))); have n1_ := am (hb); have n2_ := am (ho); clear BK330; clear HB; clear HO_3; have BK330 := n0_; have HB := n1_; have HO340 := n2_; clear n0_ n1_ n2_; clear ho hb hg hat)))
 go_roundg k1
 case measure => have := HK1.out; omega
 case rel => exact ⟨(y338), (wrap64 (x4_1 + 1)), ef_, H', ⟨by have := HK1.out; omega⟩, ⟨ra_ HO340.out⟩, ⟨bq_ BK330.out⟩, ⟨bb_ HB.out⟩⟩
def spec_PacketOk.f (a0_0 : Int) (a0_1 : Int) (a1_0 : Int) (a1_1 : Int) (a1_2 : Int) (a1_3 : Int) (a1_4 : Int) : Option (Bool) := (spec_l01In.f a1_0 1 9999).bind fun t343 => (if t343 = true then ((spec_l02Has.f a0_0 a0_1 a1_1).bind fun t344 => (if t344 = true then ((spec_l02Has.f a0_0 a0_1 a1_2).bind fun t345 => (if t345 = true then (if a1_1 = a1_2 then (none) else ((spec_l01In.f a1_3 0 1).bind fun t346 => (if t346 = true then ((spec_l01In.f a1_4 1 5).bind fun t347 => (some t347)) else (none)))) else (none))) else (none))) else (none))
theorem spec_PacketOk.calls (a0_0 : Int) (a0_1 : Int) (a1_0 : Int) (a1_1 : Int) (a1_2 : Int) (a1_3 : Int) (a1_4 : Int) (r : Bool) (w : World) (h : spec_PacketOk.f a0_0 a0_1 a1_0 a1_1 a1_2 a1_3 a1_4 = some r) :
  Calls Try.prog 85 #[.agg #[.int .i64 a0_0, .int .i64 a0_1], .agg #[.int .i64 a1_0, .int .i64 a1_1, .int .i64 a1_2, .int .i64 a1_3, .int .i64 a1_4]] w fun e w' => e = .returned (.bool r) ∧ Below w.heap.size w w' := by
 have hu25 := Try.underlying25
 have hu89 := Try.underlying89
 have HB := am (Below.refl w.heap.size w)
 have H : ((spec_l01In.f a1_0 1 9999).bind fun t343 => (if t343 = true then ((spec_l02Has.f a0_0 a0_1 a1_1).bind fun t344 => (if t344 = true then ((spec_l02Has.f a0_0 a0_1 a1_2).bind fun t345 => (if t345 = true then (if a1_1 = a1_2 then (none) else ((spec_l01In.f a1_3 0 1).bind fun t346 => (if t346 = true then ((spec_l01In.f a1_4 1 5).bind fun t347 => (some t347)) else (none)))) else (none))) else (none))) else (none))) = some r := h
 clear h
 obtain ⟨t343, A3, H⟩ := bi_ H
 by_cases c4 : t343 = true
 ·subst c4
  rw [if_pos rfl] at H
  obtain ⟨t344, A5, H⟩ := bi_ H
  by_cases c6 : t344 = true
  rotate_left
  ·replace c6 := Bool.eq_false_iff.mpr c6
   subst c6
   rw [if_neg (show ¬ (false = true) by decide)] at H
   exact absurd H (by simp)
  subst c6
  rw [if_pos rfl] at H
  obtain ⟨t345, A7, H⟩ := bi_ H
  by_cases c8 : t345 = true
  rotate_left
  ·replace c8 := Bool.eq_false_iff.mpr c8
   subst c8
   rw [if_neg (show ¬ (false = true) by decide)] at H
   exact absurd H (by simp)
  subst c8
  rw [if_pos rfl] at H
  by_cases c9 : a1_1 = a1_2
  ·rw [if_pos c9] at H
   exact absurd H (by simp)
  rw [if_neg c9] at H
  have c9b0 : (a1_1 == a1_2) = false := beq_eq_false_iff_ne.mpr c9
  have c9b1 : (a1_1 != a1_2) = true := bne_iff_ne.mpr c9
  obtain ⟨t346, A10, H⟩ := bi_ H
  by_cases c11 : t346 = true
  rotate_left
  ·replace c11 := Bool.eq_false_iff.mpr c11
   subst c11
   rw [if_neg (show ¬ (false = true) by decide)] at H
   exact absurd H (by simp)
  subst c11
  rw [if_pos rfl] at H
  obtain ⟨t347, A12, H⟩ := bi_ H
  obtain rfl := Option.some.inj H
  go_enter Try.func85, Try.ntmps85
  go_wp2_with (first | ((with_reducible refine gate_dst (N := 2) rfl ?_); refine bx_ 2 #[.int .i64 a0_0, .int .i64 a0_1] 25 ?_; intro gb341 hg w13 hbox hb; have BK341 := am (hbox); have GW341 := gw_ hg HB; replace HB := h9_ HB hb; clear hb hbox hg) | ((with_reducible refine gate_dst (N := 3) rfl ?_); refine bx_ 3 #[.int .i64 a1_0, .int .i64 a1_1, .int .i64 a1_2, .int .i64 a1_3, .int .i64 a1_4] 89 ?_; intro gb342 hg w14 hbox hb; have BK342 := am (hbox); have GW342 := gw_ hg HB; replace HB := h9_ HB hb; have NB341_342 := nl_ hg BK341; have NB342_341 := ng_ hg BK341; replace BK341 := kb_ BK341 hb; clear hb hbox hg; have hnb15 := NB342_341.out; have hnc15 := NB341_342.out; obtain ⟨hcz16_0, hcz16_1, hcz16_2, hcz16_3, hcz16_4, hfz16_0, hfz16_1, hfz16_2, hfz16_3, hfz16_4⟩ := cz5_ BK342.out) | ((with_reducible refine gate_callee (f := 40) rfl ?_); refine gm_ (some 7) Try.func40 #[.int .i64 a1_0, .int .i64 1, .int .i64 9999] rfl ?_; (with_reducible refine (spec_l01In.calls a1_0 1 9999 true _ A3.out).mono ?_); rintro e w' ⟨rfl, ⟨nd, rfl⟩⟩; refine ⟨_, rfl, ?_⟩; obtain ⟨hcz17_0, hcz17_1, hfz17_0, hfz17_1⟩ := cz2_ BK341.out) | (go_at_call 39; (with_reducible refine (spec_l02Has.calls a0_0 a0_1 a1_1 true _ A5.out).mono ?_); rintro e w18 ⟨rfl, hb⟩; replace BK341 := kb_ BK341 hb; replace BK342 := kb_ BK342 hb; replace HB := h9_ HB hb; (try clear hb); obtain ⟨hcz19_0, hcz19_1, hfz19_0, hfz19_1⟩ := cz2_ BK341.out; obtain ⟨hcz20_0, hcz20_1, hcz20_2, hcz20_3, hcz20_4, hfz20_0, hfz20_1, hfz20_2, hfz20_3, hfz20_4⟩ := cz5_ BK342.out) | (go_at_call 39; (with_reducible refine (spec_l02Has.calls a0_0 a0_1 a1_2 true _ A7.out).mono ?_); rintro e w21 ⟨rfl, hb⟩; replace BK341 := kb_ BK341 hb; replace BK342 := kb_ BK342 hb; replace HB := h9_ HB hb; (try clear hb); obtain ⟨hcz22_0, hcz22_1, hcz22_2, hcz22_3, hcz22_4, hfz22_0, hfz22_1, hfz22_2, hfz22_3, hfz22_4⟩ := cz5_ BK342.out) | (go_at_call 40; (with_reducible refine (spec_l01In.calls a1_3 0 1 true _ A10.out).mono ?_); rintro e w' ⟨rfl, ⟨nd, rfl⟩⟩) | (go_at_call 40; (with_reducible refine (spec_l01In.calls a1_4 1 5 t347 _ A12.out).mono ?_); rintro e w' ⟨rfl, ⟨nd, rfl⟩⟩))
  go_ret
  exact ⟨fin_, bb_ HB.out⟩
 ·replace c4 := Bool.eq_false_iff.mpr c4
  subst c4
  rw [if_neg (show ¬ (false = true) by decide)] at H
  exact absurd H (by simp)
def spec_FlitsOf.l0 : Nat → List (S72) → Int → Int → Int → Int → Int → Int → Int → Int → Option ((List (S72)))
 | 0, _, _, _, _, _, _, _, _, _ => none
 | k + 1, x5, x6, x349000, x349001, x350000, x350001, x350002, x350003, x350004 => if x6 < x350004 then ((spec_PacketOk.f x349000 x349001 x350000 x350001 x350002 x350003 x350004).bind fun t353 => (if t353 = true then (if x5.length < 4398046511104 then (spec_FlitsOf.l0 k (x5 ++ [(⟨x350000, x350002, x350003, (x6 == 0), (x6 == (wrap64 (x350004 - 1)))⟩ : S72)]) (wrap64 (x6 + 1)) x349000 x349001 x350000 x350001 x350002 x350003 x350004) else (none)) else (some x5))) else (some x5)
def spec_FlitsOf.f (k : Nat) (a0_0 : Int) (a0_1 : Int) (a1_0 : Int) (a1_1 : Int) (a1_2 : Int) (a1_3 : Int) (a1_4 : Int) : Option ((List (S72))) := spec_FlitsOf.l0 k (([] : List (S72))) 0 a0_0 a0_1 a1_0 a1_1 a1_2 a1_3 a1_4
theorem spec_FlitsOf.calls (k : Nat) (a0_0 : Int) (a0_1 : Int) (a1_0 : Int) (a1_1 : Int) (a1_2 : Int) (a1_3 : Int) (a1_4 : Int) (r : List (S72)) (w : World) (h : spec_FlitsOf.f k a0_0 a0_1 a1_0 a1_1 a1_2 a1_3 a1_4 = some r) :
  Calls Try.prog 99 #[.agg #[.int .i64 a0_0, .int .i64 a0_1], .agg #[.int .i64 a1_0, .int .i64 a1_1, .int .i64 a1_2, .int .i64 a1_3, .int .i64 a1_4]] w fun e w' => ∃ v0_ : Value, e = .returned (v0_) ∧ Kd.R k72 72 w' w.heap.size (fun _ => True) v0_ r ∧ Below w.heap.size w w' := by
 have hu25 := Try.underlying25
 have hu89 := Try.underlying89
 have hu72 := Try.underlying72
 have HB := am (Below.refl w.heap.size w)
 have H : (spec_FlitsOf.l0 k (([] : List (S72))) 0 a0_0 a0_1 a1_0 a1_1 a1_2 a1_3 a1_4) = some r := h
 clear h
 obtain ⟨y350, hy350⟩ : ∃ y_ : List (S72), y_ = (([] : List (S72))) := ⟨_, rfl⟩
 replace H : (spec_FlitsOf.l0 k y350 0 a0_0 a0_1 a1_0 a1_1 a1_2 a1_3 a1_4) = some r := ry_ hy350 H
 have Ny350 := am hy350
 clear hy350
 have H' := am H
 clear H
 go_enter Try.func99, Try.ntmps99
 go_wp2_with (first | ((with_reducible refine gate_dst (N := 2) rfl ?_); refine bx_ 2 #[.int .i64 a0_0, .int .i64 a0_1] 25 ?_; intro gb348 hg w3 hbox hb; have BK348 := am (hbox); have GW348 := gw_ hg HB; replace HB := h9_ HB hb; clear hb hbox hg) | ((with_reducible refine gate_dst (N := 3) rfl ?_); refine bx_ 3 #[.int .i64 a1_0, .int .i64 a1_1, .int .i64 a1_2, .int .i64 a1_3, .int .i64 a1_4] 89 ?_; intro gb349 hg w4 hbox hb; have BK349 := am (hbox); have GW349 := gw_ hg HB; replace HB := h9_ HB hb; have NB348_349 := nl_ hg BK348; have NB349_348 := ng_ hg BK348; replace BK348 := kb_ BK348 hb; clear hb hbox hg) | ((with_reducible refine gate_dst (N := 7) rfl ?_); refine Kd.R_lit k72 _ 72 ?hg (N := 7) ?hd (xs := ([] : List (S72))) (inner := []) (ok := fun _ => True) (okp := fun _ => True) ?hr ?hp (fun _ hk => hk) trivial (Below.refl _ _) (Nat.le_refl _) (by simp) ?_; (case hd => rfl); (case hg => rfl); (case hr => first | (go_simp; done) | (go_simp; rfl)); (case hp => exact (Reps.none _ _)); intro v351 w5 ho6 hb hg_ hnew_; clear hg_ hnew_; (first | rw [← Ny350.out] at ho6 | (simp only [Int.reduceToNat] at ho6; rw [← Ny350.out] at ho6)); have HO352 := am (Kd.R_lower ho6 (bz_ HB.out)); replace BK348 := kb_ BK348 hb; replace BK349 := kb_ BK349 hb; replace HB := h9_ HB hb; clear hb ho6))
 go_loopg [5, 6] k (fun kq v5 v6 w' => ∃ (x5_1 : List (S72)) (x6_1 : Int), v6 = .int .i64 x6_1 ∧ Aside0 (spec_FlitsOf.l0 kq x5_1 x6_1 a0_0 a0_1 a1_0 a1_1 a1_2 a1_3 a1_4 = some r) ∧ Aside0 (kq ≤ k) ∧ Aside0 (Kd.R k72 72 w' w.heap.size (fun _ => True) v5 x5_1) ∧ Aside0 (w'.heap[gb348]? = some (.cells #[.int .i64 a0_0, .int .i64 a0_1] 25 (0, 0))) ∧ Aside0 (w'.heap[gb349]? = some (.cells #[.int .i64 a1_0, .int .i64 a1_1, .int .i64 a1_2, .int .i64 a1_3, .int .i64 a1_4] 89 (0, 0))) ∧ Aside0 (Below w.heap.size w w'))
 case atStart => exact ⟨(y350), (0), ef_, H', ⟨Nat.le_refl _⟩, ⟨ra_ HO352.out⟩, ⟨bq_ BK348.out⟩, ⟨bq_ BK349.out⟩, ⟨bb_ HB.out⟩⟩
 clear H'
 obtain ⟨x5_1, x6_1, rfl, HA, HK1, HO_5, BK348, BK349, HB⟩ := hrel
 obtain _ | k1 := gk
 ·exact absurd HA.out (by simp [spec_FlitsOf.l0])
 have H := HA.out
 clear HA
 simp only [spec_FlitsOf.l0] at H
 by_cases c7 : x6_1 < a1_4
 rotate_left
 ·rw [if_neg c7] at H
  have c7b0 : decide (x6_1 < a1_4) = false := decide_eq_false c7
  clear c7
  obtain rfl := Option.some.inj H
  have hnb21 := NB349_348.out
  have hnc21 := NB348_349.out
  obtain ⟨hcz22_0, hcz22_1, hcz22_2, hcz22_3, hcz22_4, hfz22_0, hfz22_1, hfz22_2, hfz22_3, hfz22_4⟩ := cz5_ BK349.out
  go_wp2
  go_ret
  exact ⟨_, fin_, ra_ HO_5.out, bb_ HB.out⟩
 rw [if_pos c7] at H
 have c7b0 : decide (x6_1 < a1_4) = true := decide_eq_true c7
 clear c7
 obtain ⟨t353, A8, H⟩ := bi_ H
 by_cases c9 : t353 = true
 rotate_left
 ·replace c9 := Bool.eq_false_iff.mpr c9
  subst c9
  rw [if_neg (show ¬ (false = true) by decide)] at H
  obtain rfl := Option.some.inj H
  have hnb17 := NB349_348.out
  have hnc17 := NB348_349.out
  obtain ⟨hcz18_0, hcz18_1, hcz18_2, hcz18_3, hcz18_4, hfz18_0, hfz18_1, hfz18_2, hfz18_3, hfz18_4⟩ := cz5_ BK349.out
  obtain ⟨hcz19_0, hcz19_1, hfz19_0, hfz19_1⟩ := cz2_ BK348.out
  go_wp2_with (first | (go_at_call 85; (with_reducible refine (spec_PacketOk.calls a0_0 a0_1 a1_0 a1_1 a1_2 a1_3 a1_4 false _ A8.out).mono ?_); rintro e w20 ⟨rfl, hb⟩; replace HO_5 := rb_ HO_5 hb; replace BK348 := kb_ BK348 hb; replace BK349 := kb_ BK349 hb; replace HB := h9_ HB hb; (try clear hb)))
  go_ret
  exact ⟨_, fin_, ra_ HO_5.out, bb_ HB.out⟩
 subst c9
 rw [if_pos rfl] at H
 by_cases c10 : x5_1.length < 4398046511104
 rotate_left
 ·rw [if_neg c10] at H
  exact absurd H (by simp)
 rw [if_pos c10] at H
 have LMc10 := am c10
 clear c10
 obtain ⟨y354, hy354⟩ : ∃ y_ : List (S72), y_ = (x5_1 ++ [(⟨a1_0, a1_2, a1_3, (x6_1 == 0), (x6_1 == (wrap64 (a1_4 - 1)))⟩ : S72)]) := ⟨_, rfl⟩
 replace H : (spec_FlitsOf.l0 k1 y354 (wrap64 (x6_1 + 1)) a0_0 a0_1 a1_0 a1_1 a1_2 a1_3 a1_4) = some r := ry_ hy354 H
 have Ny354 := am hy354
 clear hy354
 have H' := am H
 clear H
 have hnb11 := NB349_348.out
 have hnc11 := NB348_349.out
 obtain ⟨hcz12_0, hcz12_1, hcz12_2, hcz12_3, hcz12_4, hfz12_0, hfz12_1, hfz12_2, hfz12_3, hfz12_4⟩ := cz5_ BK349.out
 obtain ⟨hcz13_0, hcz13_1, hfz13_0, hfz13_1⟩ := cz2_ BK348.out
 go_wp2_with (first | (go_at_call 85; (with_reducible refine (spec_PacketOk.calls a0_0 a0_1 a1_0 a1_1 a1_2 a1_3 a1_4 true _ A8.out).mono ?_); rintro e w14 ⟨rfl, hb⟩; replace HO_5 := rb_ HO_5 hb; replace BK348 := kb_ BK348 hb; replace BK349 := kb_ BK349 hb; replace HB := h9_ HB hb; (try clear hb); obtain ⟨hcz15_0, hcz15_1, hcz15_2, hcz15_3, hcz15_4, hfz15_0, hfz15_1, hfz15_2, hfz15_3, hfz15_4⟩ := cz5_ BK349.out) | ((with_reducible refine gate_builtin (b := .append) (xs := #[.tmp 19, .tmp 34]) rfl ?_); at_builtin; refine Kd.R_append k72 (w0 := w) w.heap.size rfl (.tmp 19) (.tmp 34) 42 72 (.agg #[(.int .i64 0), (.int .i64 0), (.int .i64 0), (.bool false), (.bool false)]) 32 rfl Try.underlying42 info72 rfl (by decide) (by omega) u5 x5_1 (⟨a1_0, a1_2, a1_3, (x6_1 == 0), (x6_1 == (wrap64 (a1_4 - 1)))⟩ : S72) [.int .i64 a1_0, .int .i64 a1_2, .int .i64 a1_3, .bool (x6_1 == 0), .bool (x6_1 == (wrap64 (a1_4 - 1)))] (fun _ => True) (fun _ => False) rfl rfl ?aP (fun _ hk => hk.elim) ?aF ?aO ?aB ?aS ?aL ?_; (case aP => exact k72_mkM _ _ _ (⟨a1_0, a1_2, a1_3, (x6_1 == 0), (x6_1 == (wrap64 (a1_4 - 1)))⟩ : S72)); (case aB => exact (hb_ HB.out)); (case aF => exact (fun _ _ => trivial)); (case aO => exact (ra_ HO_5.out)); (case aS => exact (bz_ HB.out)); (case aL => have := LMc10.out; omega); intro v355 w16 ho hb hg hat; rw [← Ny354.out] at ho; have n0_ := am (blk_grown (g := gb348) (o := .cells #[.int .i64 a0_0, .int .i64 a0_1] 25 (0, 0)) (bq_ BK348.out) hg (Kd.R_ne HO_5.out BK348.out (by decide))); have n1_ := am (blk_grown (g := gb349) (o := .cells #[.int .i64 a1_0, .int .i64 a1_1, .int .i64 a1_2, .int .i64 a1_3, .int .i64 a1_4] 89 (0, 0)) (bq_ BK349.out) hg (Kd.R_ne HO_5.out BK349.out (by decide))); have n2_ := am (hb); have n3_ := am (ho); clear BK348; clear BK349; clear HB; clear HO_5; have BK348 := n0_; have BK349 := n1_; have HB := n2_; have HO356 := n3_; clear n0_ n1_ n2_ n3_; clear ho hb hg hat))
 go_roundg k1
 case measure => have := HK1.out; omega
 case rel => exact ⟨(y354), (wrap64 (x6_1 + 1)), ef_, H', ⟨by have := HK1.out; omega⟩, ⟨ra_ HO356.out⟩, ⟨bq_ BK348.out⟩, ⟨bq_ BK349.out⟩, ⟨bb_ HB.out⟩⟩
section
variable {P : Program} {ops : Array Oper} {Q : Exit → Act → World → Prop} {md : Region.Mode} {S : World → Prop} {ds : List Nat} {oi : Oper} {v : Value} {fuel : Nat} {l : Array Bool} {a a' : Act} {w : World}
theorem pk_ (i N : Nat) (l' : Array Bool) (h : wpAnyLast P md ops Q S ds fuel l' a' w) (hi : ops[i]? = some oi := by rfl) (hN : oi.dst = some N := by rfl) (hc : anyB md ops l l' i = true := by kernel_rfl) (hQ : ∀ c a w, Q (.panic c) (a.put oi.dst v) w → Q (.panic c) a w := by (exact fun _ _ _ h => h)) (hw : Region.wanted oi (yielded ops a.tmps) = true := by rfl) (hy : ∀ w, (execOp a.eval oi).run P w = .ok (.value v) w := by (intro w'; go_simp; with_reducible rfl)) (ha : a.put (some N) v = a' := by (simp only [Act.put, List.setIfInBounds_toArray, List.set_cons_zero, List.set_cons_succ, i64_w, i32_w]; rfl)) : wpAnyLast P md ops Q S ds (fuel + 1) l a w := pure_ l' hi hN hc hQ (Or.inl ⟨hw, hy⟩) ha h
theorem tk_ (i N : Nat) (l' : Array Bool) (hS : S w) (h : wpAnyLast P md ops Q S ds fuel l' a' w) (hi : ops[i]? = some oi := by rfl) (hN : oi.dst = some N := by rfl) (hc : takeB md ops ds l l' i = true := by kernel_rfl) (hQ : ∀ c a w, Q (.panic c) (a.put oi.dst v) w → Q (.panic c) a w := by (exact fun _ _ _ h => h)) (hw : Region.wanted oi (yielded ops a.tmps) = true := by rfl) (ha : a.put (some N) v = a' := by (simp only [Act.put, List.setIfInBounds_toArray, List.set_cons_zero, List.set_cons_succ, i64_w, i32_w]; rfl)) (hy : ∀ w, S w → (execOp a.eval oi).run P w = .ok (.value v) w) : wpAnyLast P md ops Q S ds (fuel + 1) l a w := take_ l' hi hN hc hQ (Or.inl ⟨hw, hy⟩) hS ha h
end
section
variable {T : Nat → Nat} {B : Nat} {w w1 : World} {v2 v3 v4 v5 v6 v7 v8 v9 : Value} {l2 l3 l4 : List Int} {l5 : List (List S72)} {l6 l7 : List Int} {l8 l9 : List (List S72)}
theorem Marks.std (h : Marks T B w v2 v3 v4 v5 v6 v7 v8 v9 l2 l3 l4 l5 l6 l7 l8 l9) : Kd.R (Kd.int .i64) 3 w B (fun k_ => some k_ ≠ (v3 : Value).ownBlock ∧ some k_ ≠ (v4 : Value).ownBlock ∧ some k_ ≠ (v6 : Value).ownBlock ∧ some k_ ≠ (v7 : Value).ownBlock) v2 l2 ∧ Kd.R (Kd.int .i64) 3 w B (fun k_ => some k_ ≠ (v2 : Value).ownBlock ∧ some k_ ≠ (v4 : Value).ownBlock ∧ some k_ ≠ (v6 : Value).ownBlock ∧ some k_ ≠ (v7 : Value).ownBlock) v3 l3 ∧ Kd.R (Kd.int .i64) 3 w B (fun k_ => some k_ ≠ (v2 : Value).ownBlock ∧ some k_ ≠ (v3 : Value).ownBlock ∧ some k_ ≠ (v6 : Value).ownBlock ∧ some k_ ≠ (v7 : Value).ownBlock) v4 l4 ∧ Kd.S (Kd.slice 72 k72) 42 w B (fun k_ => some k_ ≠ (v8 : Value).ownBlock ∧ some k_ ≠ (v9 : Value).ownBlock) v5 l5 ∧ Kd.R (Kd.int .i64) 3 w B (fun k_ => some k_ ≠ (v2 : Value).ownBlock ∧ some k_ ≠ (v3 : Value).ownBlock ∧ some k_ ≠ (v4 : Value).ownBlock ∧ some k_ ≠ (v7 : Value).ownBlock) v6 l6 ∧ Kd.R (Kd.int .i64) 3 w B (fun k_ => some k_ ≠ (v2 : Value).ownBlock ∧ some k_ ≠ (v3 : Value).ownBlock ∧ some k_ ≠ (v4 : Value).ownBlock ∧ some k_ ≠ (v6 : Value).ownBlock) v7 l7 ∧ Kd.S (Kd.slice 72 k72) 42 w B (fun k_ => some k_ ≠ (v5 : Value).ownBlock ∧ some k_ ≠ (v9 : Value).ownBlock) v8 l8 ∧ Kd.S (Kd.slice 72 k72) 42 w B (fun k_ => some k_ ≠ (v5 : Value).ownBlock ∧ some k_ ≠ (v8 : Value).ownBlock) v9 l9 := by
 have o2 : ∀ k, v2.ownBlock = some k → T k = 2 := h.h2.1
 have o3 : ∀ k, v3.ownBlock = some k → T k = 3 := h.h3.1
 have o4 : ∀ k, v4.ownBlock = some k → T k = 4 := h.h4.1
 have o5 : ∀ k, v5.ownBlock = some k → T k = 5 := (Kd.S_R h.h5).1
 have o6 : ∀ k, v6.ownBlock = some k → T k = 6 := h.h6.1
 have o7 : ∀ k, v7.ownBlock = some k → T k = 7 := h.h7.1
 have o8 : ∀ k, v8.ownBlock = some k → T k = 8 := (Kd.S_R h.h8).1
 have o9 : ∀ k, v9.ownBlock = some k → T k = 9 := (Kd.S_R h.h9).1
 have ne {n m : Nat} {v : Value} (hv : ∀ k, v.ownBlock = some k → T k = m) (hn : n ≠ m) : ∀ k, T k = n → some k ≠ v.ownBlock := fun k hk e => hn (hk.symm.trans (hv k e.symm))
 exact ⟨Kd.R_mono h.h2 (fun k hk => ⟨ne o3 (by decide) k hk, ne o4 (by decide) k hk, ne o6 (by decide) k hk, ne o7 (by decide) k hk⟩), Kd.R_mono h.h3 (fun k hk => ⟨ne o2 (by decide) k hk, ne o4 (by decide) k hk, ne o6 (by decide) k hk, ne o7 (by decide) k hk⟩), Kd.R_mono h.h4 (fun k hk => ⟨ne o2 (by decide) k hk, ne o3 (by decide) k hk, ne o6 (by decide) k hk, ne o7 (by decide) k hk⟩), Kd.S_mono h.h5 (fun k hk => ⟨ne o8 (by decide) k hk, ne o9 (by decide) k hk⟩), Kd.R_mono h.h6 (fun k hk => ⟨ne o2 (by decide) k hk, ne o3 (by decide) k hk, ne o4 (by decide) k hk, ne o7 (by decide) k hk⟩), Kd.R_mono h.h7 (fun k hk => ⟨ne o2 (by decide) k hk, ne o3 (by decide) k hk, ne o4 (by decide) k hk, ne o6 (by decide) k hk⟩), Kd.S_mono h.h8 (fun k hk => ⟨ne o5 (by decide) k hk, ne o9 (by decide) k hk⟩), Kd.S_mono h.h9 (fun k hk => ⟨ne o5 (by decide) k hk, ne o8 (by decide) k hk⟩)⟩
end
def spec_l15Copy.f (k : Nat) (a0_0 : Int) (a0_1 : Int) (l0_2 : List Int) (l0_3 : List Int) (l0_4 : List Int) (l0_5 : List (List S72)) (l0_6 : List Int) (l0_7 : List Int) (l0_8 : List (List S72)) (l0_9 : List (List S72)) (a0_10 : Int) : Option (Int × Int × List Int × List Int × List Int × (List (List S72)) × List Int × List Int × (List (List S72)) × (List (List S72)) × Int) := (spec_l15Mesh.f a0_0 a0_1 l0_2).bind fun m => (spec_l15Classes.f l0_3 l0_4).bind fun t => (spec_l15Lists.f k l0_5).bind fun b => if l0_6.length < 17592186044416 then (if l0_7.length < 17592186044416 then (spec_l15Lists.f k l0_8).bind fun s => (spec_l15Lists.f k l0_9).bind fun a => some (m.1, m.2.1, m.2.2, t.1, t.2, b, l0_6, l0_7, s, a, a0_10) else none) else none
set_option maxHeartbeats 4000000 in
theorem spec_l15Copy.callsM (k : Nat) (a0_0 : Int) (a0_1 : Int) (A0_2 : Option Addr) (c0_2 : Nat) (l0_2 : List Int) (A0_3 : Option Addr) (c0_3 : Nat) (l0_3 : List Int) (A0_4 : Option Addr) (c0_4 : Nat) (l0_4 : List Int) (A0_5 : Option Addr) (c0_5 : Nat) (l0_5 : List (List S72)) (A0_6 : Option Addr) (c0_6 : Nat) (l0_6 : List Int) (A0_7 : Option Addr) (c0_7 : Nat) (l0_7 : List Int) (A0_8 : Option Addr) (c0_8 : Nat) (l0_8 : List (List S72)) (A0_9 : Option Addr) (c0_9 : Nat) (l0_9 : List (List S72)) (a0_10 : Int) (r1 : Int) (r2 : Int) (r3 : List Int) (r4 : List Int) (r5 : List Int) (r6 : List (List S72)) (r7 : List Int) (r8 : List Int) (r9 : List (List S72)) (r10 : List (List S72)) (r11 : Int) (w : World) (hr0_2 : Kd.C (Kd.int .i64) w A0_2 l0_2.length l0_2) (hc0_2 : l0_2.length ≤ c0_2) (hr0_3 : Kd.C (Kd.int .i64) w A0_3 l0_3.length l0_3) (hc0_3 : l0_3.length ≤ c0_3) (hr0_4 : Kd.C (Kd.int .i64) w A0_4 l0_4.length l0_4) (hc0_4 : l0_4.length ≤ c0_4) (hr0_5 : Kd.C (Kd.slice 72 k72) w A0_5 l0_5.length l0_5) (hc0_5 : l0_5.length ≤ c0_5) (hr0_6 : Kd.C (Kd.int .i64) w A0_6 l0_6.length l0_6) (hc0_6 : l0_6.length ≤ c0_6) (hr0_7 : Kd.C (Kd.int .i64) w A0_7 l0_7.length l0_7) (hc0_7 : l0_7.length ≤ c0_7) (hr0_8 : Kd.C (Kd.slice 72 k72) w A0_8 l0_8.length l0_8) (hc0_8 : l0_8.length ≤ c0_8) (hr0_9 : Kd.C (Kd.slice 72 k72) w A0_9 l0_9.length l0_9) (hc0_9 : l0_9.length ≤ c0_9) (h : spec_l15Copy.f k a0_0 a0_1 l0_2 l0_3 l0_4 l0_5 l0_6 l0_7 l0_8 l0_9 a0_10 = some (r1, r2, r3, r4, r5, r6, r7, r8, r9, r10, r11)) :
  Calls Try.prog 62 #[.agg #[.int .i64 a0_0, .int .i64 a0_1, .slice A0_2 l0_2.length c0_2, .slice A0_3 l0_3.length c0_3, .slice A0_4 l0_4.length c0_4, .slice A0_5 l0_5.length c0_5, .slice A0_6 l0_6.length c0_6, .slice A0_7 l0_7.length c0_7, .slice A0_8 l0_8.length c0_8, .slice A0_9 l0_9.length c0_9, .int .i64 a0_10]] w fun e w' => ∃ (T_ : Nat → Nat) (v2_ v3_ v4_ v5_ v6_ v7_ v8_ v9_ : Value), e = .returned (.agg #[.int .i64 r1, .int .i64 r2, v2_, v3_, v4_, v5_, v6_, v7_, v8_, v9_, .int .i64 r11]) ∧ Marks T_ w.heap.size w' v2_ v3_ v4_ v5_ v6_ v7_ v8_ v9_ r3 r4 r5 r6 r7 r8 r9 r10 ∧ Below w.heap.size w w' := by
 have HR2 := am hr0_2; have HC2 := am hc0_2
 have HR3 := am hr0_3; have HC3 := am hc0_3
 have HR4 := am hr0_4; have HC4 := am hc0_4
 have HR5 := am hr0_5; have HC5 := am hc0_5
 have HR6 := am hr0_6; have HC6 := am hc0_6
 have HR7 := am hr0_7; have HC7 := am hc0_7
 have HR8 := am hr0_8; have HC8 := am hc0_8
 have HR9 := am hr0_9; have HC9 := am hc0_9
 have HB := am (Below.refl w.heap.size w)
 unfold spec_l15Copy.f at h
 obtain ⟨⟨m1, m2, m3⟩, e1, g_⟩ := Option.bind_eq_some_iff.1 h; clear h; have h := g_; clear g_
 obtain ⟨⟨t1, t2⟩, e2, g_⟩ := Option.bind_eq_some_iff.1 h; clear h; have h := g_; clear g_
 obtain ⟨b5, e3, g_⟩ := Option.bind_eq_some_iff.1 h; clear h; have h := g_; clear g_
 dsimp only at h
 by_cases d6 : l0_6.length < 17592186044416
 rotate_left
 ·rw [if_neg d6] at h; cases h
 rw [if_pos d6] at h
 by_cases d7 : l0_7.length < 17592186044416
 rotate_left
 ·rw [if_neg d7] at h; cases h
 rw [if_pos d7] at h
 obtain ⟨s8, e4, g_⟩ := Option.bind_eq_some_iff.1 h; clear h; have h := g_; clear g_
 obtain ⟨s9, e5, g_⟩ := Option.bind_eq_some_iff.1 h; clear h; have h := g_; clear g_
 simp only [Option.some.injEq, Prod.mk.injEq] at h
 obtain ⟨rfl, rfl, rfl, rfl, rfl, rfl, rfl, rfl, rfl, rfl, rfl⟩ := h
 have E1 := am e1
 have E2 := am e2
 have E3 := am e3
 have E4 := am e4
 have E5 := am e5
 have D6 := am d6; have D7 := am d7
 clear e1 e2 e3 e4 e5 d6 d7 hr0_2 hc0_2 hr0_3 hc0_3 hr0_4 hc0_4 hr0_5 hc0_5 hr0_6 hc0_6 hr0_7 hc0_7 hr0_8 hc0_8 hr0_9 hc0_9
 have hu35 := Try.underlying35
 go_enter Try.func62, Try.ntmps62
 go_upto_region 1 with (first | ((with_reducible refine gate_dst (N := 1) rfl ?_); refine bx_ 1 #[.int .i64 a0_0, .int .i64 a0_1, .slice A0_2 l0_2.length c0_2, .slice A0_3 l0_3.length c0_3, .slice A0_4 l0_4.length c0_4, .slice A0_5 l0_5.length c0_5, .slice A0_6 l0_6.length c0_6, .slice A0_7 l0_7.length c0_7, .slice A0_8 l0_8.length c0_8, .slice A0_9 l0_9.length c0_9, .int .i64 a0_10] 35 ?_; intro g1 hg w1 hbox hb; have B1 := am hbox; replace HB := h9_ HB hb; clear hb hbox hg) | ((with_reducible refine gate_dst (N := 2) rfl ?_); refine bx_ 2 #[.int .i64 0, .int .i64 0, .slice none 0 0, .slice none 0 0, .slice none 0 0, .slice none 0 0, .slice none 0 0, .slice none 0 0, .slice none 0 0, .slice none 0 0, .int .i64 0] 35 ?_; intro g2 hg w1 hbox hb; have B2 := am hbox; have G2 := am (show w.heap.size ≤ g2 by rw [hg]; exact (bz_ HB.out)); have N12 := am (show g1 ≠ g2 by rw [hg]; exact Nat.ne_of_lt (bl_ B1.out)); replace B1 := kb_ B1 hb; replace HB := h9_ HB hb; clear hb hbox hg))
 refine start_ (n := 27) (S := fun w' => w'.cell? ⟨g1, 0, none⟩ = some (.int .i64 a0_0) ∧ w'.cell? ⟨g1, 1, none⟩ = some (.int .i64 a0_1) ∧ w'.cell? ⟨g1, 2, none⟩ = some (.slice A0_2 l0_2.length c0_2) ∧ w'.cell? ⟨g1, 3, none⟩ = some (.slice A0_3 l0_3.length c0_3) ∧ w'.cell? ⟨g1, 4, none⟩ = some (.slice A0_4 l0_4.length c0_4) ∧ w'.cell? ⟨g1, 5, none⟩ = some (.slice A0_5 l0_5.length c0_5) ∧ w'.cell? ⟨g1, 6, none⟩ = some (.slice A0_6 l0_6.length c0_6) ∧ w'.cell? ⟨g1, 7, none⟩ = some (.slice A0_7 l0_7.length c0_7) ∧ w'.cell? ⟨g1, 8, none⟩ = some (.slice A0_8 l0_8.length c0_8) ∧ w'.cell? ⟨g1, 9, none⟩ = some (.slice A0_9 l0_9.length c0_9) ∧ w'.cell? ⟨g1, 10, none⟩ = some (.int .i64 a0_10)) (ds := []) #[false, false, false, false, false, false, false, false, false, false, false, false, false, false, false, false, false, false, false, false, false, false, false, false, false, false, false] (by kernel_rfl) rfl rfl ⟨(blk_cell (bq_ B1.out) 0).trans rfl, (blk_cell (bq_ B1.out) 1).trans rfl, (blk_cell (bq_ B1.out) 2).trans rfl, (blk_cell (bq_ B1.out) 3).trans rfl, (blk_cell (bq_ B1.out) 4).trans rfl, (blk_cell (bq_ B1.out) 5).trans rfl, (blk_cell (bq_ B1.out) 6).trans rfl, (blk_cell (bq_ B1.out) 7).trans rfl, (blk_cell (bq_ B1.out) 8).trans rfl, (blk_cell (bq_ B1.out) 9).trans rfl, (blk_cell (bq_ B1.out) 10).trans rfl⟩ (fun hHeld => ?_)
 replace B1 := am (bq_ B1.out : w1.drew.heap[g1]? = some _); replace B2 := am (bq_ B2.out : w1.drew.heap[g2]? = some _); replace HB := am (bb_ HB.out : Below w.heap.size w w1.drew)
 generalize w1.drew = w4 at *
 have HLE := am HB.out.size
 refine pk_ 0 3 (bt_ 27 1) ?_
 refine tk_ (v := .agg #[.int .i64 a0_0, .int .i64 a0_1, .slice A0_2 l0_2.length c0_2]) 1 4 (bt_ 27 3) hHeld ?_ (hy := by rintro w' ⟨s0, s1, s2, s3, s4, s5, s6, s7, s8, s9, s10⟩; go_simp)
 refine pk_ 3 6 (bt_ 27 11) ?_
 refine tk_ (v := .agg #[.slice A0_3 l0_3.length c0_3, .slice A0_4 l0_4.length c0_4]) 4 7 (bt_ 27 27) hHeld ?_ (hy := by rintro w' ⟨s0, s1, s2, s3, s4, s5, s6, s7, s8, s9, s10⟩; go_simp)
 refine pk_ 6 9 (bt_ 27 91) ?_
 refine tk_ (v := .slice A0_5 l0_5.length c0_5) 7 10 (bt_ 27 219) hHeld ?_ (hy := by rintro w' ⟨s0, s1, s2, s3, s4, s5, s6, s7, s8, s9, s10⟩; go_simp)
 refine pk_ 10 13 (bt_ 27 1243) ?_
 refine tk_ (v := .slice A0_6 l0_6.length c0_6) 11 14 (bt_ 27 3291) hHeld ?_ (hy := by rintro w' ⟨s0, s1, s2, s3, s4, s5, s6, s7, s8, s9, s10⟩; go_simp)
 refine pk_ 14 17 (bt_ 27 19675) ?_
 refine tk_ (v := .slice A0_7 l0_7.length c0_7) 15 18 (bt_ 27 52443) hHeld ?_ (hy := by rintro w' ⟨s0, s1, s2, s3, s4, s5, s6, s7, s8, s9, s10⟩; go_simp)
 refine pk_ 17 20 (bt_ 27 183515) ?_
 refine tk_ (v := .slice A0_8 l0_8.length c0_8) 18 21 (bt_ 27 445659) hHeld ?_ (hy := by rintro w' ⟨s0, s1, s2, s3, s4, s5, s6, s7, s8, s9, s10⟩; go_simp)
 refine pk_ 20 23 (bt_ 27 1494235) ?_
 refine tk_ (v := .slice A0_9 l0_9.length c0_9) 21 24 (bt_ 27 3591387) hHeld ?_ (hy := by rintro w' ⟨s0, s1, s2, s3, s4, s5, s6, s7, s8, s9, s10⟩; go_simp)
 refine pk_ 23 26 (bt_ 27 11979995) ?_
 refine tk_ (v := .int .i64 a0_10) 24 27 (bt_ 27 28757211) hHeld ?_ (hy := by rintro w' ⟨s0, s1, s2, s3, s4, s5, s6, s7, s8, s9, s10⟩; go_simp)
 clear hHeld
 refine evsA_ [2, 5, 8, 9, 12, 13, 16, 19, 22] (fun i => match i with | 2 => 2 | 5 => 3 | 8 => 5 | 9 => 6 | 12 => 6 | 13 => 7 | 16 => 7 | 19 => 8 | _ => 9) (fun i => match i with | 9 => 12 | 13 => 16 | _ => 100) (fun v => [(5, v 2), (8, v 5), (11, v 8), (12, v 9), (15, v 12), (16, v 13), (19, v 16), (22, v 19), (25, v 22)]) (fun i => match i with | 2 => Ev.A1 3 w4.heap.size (.int .i64 m1) (.int .i64 m2) m3 | 5 => Ev.A2 3 w4.heap.size t1 t2 | 8 => Ev.S (Kd.slice 72 k72) 42 w4.heap.size b5 | 9 => Ev.R (Kd.int .i64) 3 w4.heap.size ([] : List Int) | 12 => Ev.R (Kd.int .i64) 3 w4.heap.size l0_6 | 13 => Ev.R (Kd.int .i64) 3 w4.heap.size ([] : List Int) | 16 => Ev.R (Kd.int .i64) 3 w4.heap.size l0_7 | 19 => Ev.S (Kd.slice 72 k72) 42 w4.heap.size s8 | 22 => Ev.S (Kd.slice 72 k72) 42 w4.heap.size s9 | _ => Ev.no) (bt_ 27 33554431) 2 rfl (by kernel_rfl) (by simp only [putAll, Act.put, List.setIfInBounds_toArray, List.set_cons_zero, List.set_cons_succ]; first | done | rfl) ?_ (fun w1_ hb_ => ⟨(blk_cell (bk_ B1.out hb_) 0).trans rfl, (blk_cell (bk_ B1.out hb_) 1).trans rfl, (blk_cell (bk_ B1.out hb_) 2).trans rfl, (blk_cell (bk_ B1.out hb_) 3).trans rfl, (blk_cell (bk_ B1.out hb_) 4).trans rfl, (blk_cell (bk_ B1.out hb_) 5).trans rfl, (blk_cell (bk_ B1.out hb_) 6).trans rfl, (blk_cell (bk_ B1.out hb_) 7).trans rfl, (blk_cell (bk_ B1.out hb_) 8).trans rfl, (blk_cell (bk_ B1.out hb_) 9).trans rfl, (blk_cell (bk_ B1.out hb_) 10).trans rfl⟩) ?_ ?_
 ·decide
 ·intro i hi
  simp only [List.mem_cons, List.not_mem_nil, or_false] at hi
  rcases hi with rfl | rfl | rfl | rfl | rfl | rfl | rfl | rfl | rfl
  ·refine ⟨_, rfl, fun v x => (by simp only [putAll, Act.put, List.setIfInBounds_toArray, List.set_cons_zero, List.set_cons_succ, Nat.reduceEqDiff, ↓reduceIte]; first | done | rfl), fun T v W hW hBW hc K a1 ha hK => ?_⟩
   simp only [putAll, Act.put, List.setIfInBounds_toArray, List.set_cons_zero, List.set_cons_succ] at ha
   subst ha
   have HBW := am (bs_ HB.out hW)
   refine gs_ Try.func60 #[.agg #[.int .i64 a0_0, .int .i64 a0_1, .slice A0_2 l0_2.length c0_2]] ?_
   with_reducible refine (spec_l15Mesh.calls a0_0 a0_1 _ _ l0_2 m1 m2 m3 _ ?s0 HC2.out E1.out).mono ?_
   (case s0 => exact cb_ HR2.out HBW.out)
   rintro e w1 ⟨u_, rfl, h_, hb⟩
   exact ⟨_, rfl, hK _ w1 (bs_ hW hb) hb.size (fun k_ hl_ _ => hb.block k_ hl_) ⟨u_, rfl, (rq_ h_ hBW (fun k_ h1_ h_ => Or.inr h_))⟩⟩
  ·refine ⟨_, rfl, fun v x => (by simp only [putAll, Act.put, List.setIfInBounds_toArray, List.set_cons_zero, List.set_cons_succ, Nat.reduceEqDiff, ↓reduceIte]; first | done | rfl), fun T v W hW hBW hc K a1 ha hK => ?_⟩
   simp only [putAll, Act.put, List.setIfInBounds_toArray, List.set_cons_zero, List.set_cons_succ] at ha
   subst ha
   have HBW := am (bs_ HB.out hW)
   refine gs_ Try.func61 #[.agg #[.slice A0_3 l0_3.length c0_3, .slice A0_4 l0_4.length c0_4]] ?_
   with_reducible refine (spec_l15Classes.calls _ _ l0_3 _ _ l0_4 t1 t2 _ ?s0 HC3.out ?s1 HC4.out E2.out).mono ?_
   (case s0 => exact cb_ HR3.out HBW.out)
   (case s1 => exact cb_ HR4.out HBW.out)
   rintro e w1 ⟨u_, u1_, rfl, h_, h1_, hb⟩
   exact ⟨_, rfl, hK _ w1 (bs_ hW hb) hb.size (fun k_ hl_ _ => hb.block k_ hl_) ⟨u_, u1_, rfl, rq_ h_ hBW (fun k_ g_ q_ => ⟨Or.inr q_, g_⟩), rq_ h1_ hBW (fun k_ g_ q_ => ⟨Or.inr q_, g_⟩)⟩⟩
  ·refine ⟨_, rfl, fun v x => (by simp only [putAll, Act.put, List.setIfInBounds_toArray, List.set_cons_zero, List.set_cons_succ, Nat.reduceEqDiff, ↓reduceIte]; first | done | rfl), fun T v W hW hBW hc K a1 ha hK => ?_⟩
   simp only [putAll, Act.put, List.setIfInBounds_toArray, List.set_cons_zero, List.set_cons_succ] at ha
   subst ha
   have HBW := am (bs_ HB.out hW)
   refine gs_ Try.func84 #[.slice A0_5 l0_5.length c0_5] ?_
   with_reducible refine (spec_l15Lists.calls k _ _ l0_5 b5 _ ?s0 HC5.out E3.out).mono ?_
   (case s0 => exact cb_ HR5.out HBW.out)
   rintro e w1 ⟨u_, rfl, h_, hb⟩
   exact ⟨_, rfl, hK _ w1 (bs_ hW hb) hb.size (fun k_ hl_ _ => hb.block k_ hl_) (sqq_ h_ hBW (fun k_ g_ q_ => Or.inr q_))⟩
  ·refine ⟨_, rfl, fun v x => (by simp only [putAll, Act.put, List.setIfInBounds_toArray, List.set_cons_zero, List.set_cons_succ, Nat.reduceEqDiff, ↓reduceIte]; first | done | rfl), fun T v W hW hBW hc K a1 ha hK => ?_⟩
   simp only [putAll, Act.put, List.setIfInBounds_toArray, List.set_cons_zero, List.set_cons_succ] at ha
   subst ha
   have HBW := am (bs_ HB.out hW)
   refine Kd.R_lit_step (Kd.int .i64) _ 3 ?hg (N := 12) ?hd (xs := ([] : List Int)) (inner := []) (ok := fun _ => True) (okp := fun _ => True) ?hr ?hp (fun _ hk => hk) trivial (Below.refl _ _) (Nat.le_refl _) (by simp) ?_; (case hd => rfl); (case hg => rfl); (case hr => first | (go_simp; done) | (go_simp; rfl)); (case hp => exact (Reps.none _ _))
   intro x_ w1 h_ hb _ _
   exact hK _ w1 (bs_ hW hb) hb.size (fun k_ hl_ _ => hb.block k_ hl_) (rq_ h_ hBW (fun k_ h1_ h_ => Or.inr h_))
  ·refine ⟨_, rfl, fun v x => (by simp only [putAll, Act.put, List.setIfInBounds_toArray, List.set_cons_zero, List.set_cons_succ, Nat.reduceEqDiff, ↓reduceIte]; first | done | rfl), fun T v W hW hBW hc K a1 ha hK => ?_⟩
   simp only [putAll, Act.put, List.setIfInBounds_toArray, List.set_cons_zero, List.set_cons_succ] at ha
   subst ha
   have HBW := am (bs_ HB.out hW)
   have HV := hc 9 (by decide) rfl
   refine Kd.R_append_rows_step (Kd.int .i64) (w0 := w4) w4.heap.size (by rfl) (.tmp 12) (.tmp 14) 26 3 (.int .i64 0) 8 rfl Try.underlying26 info3 rfl (by decide) (by omega) (v 9) [] l0_6 _ _ _ (fun k_ => T k_ = 6 ∨ W.heap.size ≤ k_) (fun _ => False) rfl rfl ?aO ?aR (fun _ _ h => h) (fun _ h => h.elim) ?aF ?aB ?aS ?aL ?_
   (case aR => exact cb_ HR6.out HBW.out)
   (case aB => exact hW)
   (case aF => exact fun k_ h_ => Or.inr (by omega))
   (case aO => exact Kd.R_mono HV (fun k_ h_ => Or.inl h_))
   (case aS => exact hBW)
   (case aL => have := D6.out; simp only [List.length_nil]; omega)
   intro x_ w1 h_ hb hg _
   rw [List.nil_append] at h_
   exact hK _ w1 hb hg.size (fun k_ hl_ ht_ => hg.block k_ hl_ (fun e_ => ht_ (HV.1 k_ e_.symm))) (Kd.R_mono (Kd.R_bound h_) (fun k_ q_ => q_.1.elim Or.inl (fun z_ => Or.inr ⟨z_, q_.2.2.1⟩)))
  ·refine ⟨_, rfl, fun v x => (by simp only [putAll, Act.put, List.setIfInBounds_toArray, List.set_cons_zero, List.set_cons_succ, Nat.reduceEqDiff, ↓reduceIte]; first | done | rfl), fun T v W hW hBW hc K a1 ha hK => ?_⟩
   simp only [putAll, Act.put, List.setIfInBounds_toArray, List.set_cons_zero, List.set_cons_succ] at ha
   subst ha
   have HBW := am (bs_ HB.out hW)
   refine Kd.R_lit_step (Kd.int .i64) _ 3 ?hg (N := 16) ?hd (xs := ([] : List Int)) (inner := []) (ok := fun _ => True) (okp := fun _ => True) ?hr ?hp (fun _ hk => hk) trivial (Below.refl _ _) (Nat.le_refl _) (by simp) ?_; (case hd => rfl); (case hg => rfl); (case hr => first | (go_simp; done) | (go_simp; rfl)); (case hp => exact (Reps.none _ _))
   intro x_ w1 h_ hb _ _
   exact hK _ w1 (bs_ hW hb) hb.size (fun k_ hl_ _ => hb.block k_ hl_) (rq_ h_ hBW (fun k_ h1_ h_ => Or.inr h_))
  ·refine ⟨_, rfl, fun v x => (by simp only [putAll, Act.put, List.setIfInBounds_toArray, List.set_cons_zero, List.set_cons_succ, Nat.reduceEqDiff, ↓reduceIte]; first | done | rfl), fun T v W hW hBW hc K a1 ha hK => ?_⟩
   simp only [putAll, Act.put, List.setIfInBounds_toArray, List.set_cons_zero, List.set_cons_succ] at ha
   subst ha
   have HBW := am (bs_ HB.out hW)
   have HV := hc 13 (by decide) rfl
   refine Kd.R_append_rows_step (Kd.int .i64) (w0 := w4) w4.heap.size (by rfl) (.tmp 16) (.tmp 18) 26 3 (.int .i64 0) 8 rfl Try.underlying26 info3 rfl (by decide) (by omega) (v 13) [] l0_7 _ _ _ (fun k_ => T k_ = 7 ∨ W.heap.size ≤ k_) (fun _ => False) rfl rfl ?aO ?aR (fun _ _ h => h) (fun _ h => h.elim) ?aF ?aB ?aS ?aL ?_
   (case aR => exact cb_ HR7.out HBW.out)
   (case aB => exact hW)
   (case aF => exact fun k_ h_ => Or.inr (by omega))
   (case aO => exact Kd.R_mono HV (fun k_ h_ => Or.inl h_))
   (case aS => exact hBW)
   (case aL => have := D7.out; simp only [List.length_nil]; omega)
   intro x_ w1 h_ hb hg _
   rw [List.nil_append] at h_
   exact hK _ w1 hb hg.size (fun k_ hl_ ht_ => hg.block k_ hl_ (fun e_ => ht_ (HV.1 k_ e_.symm))) (Kd.R_mono (Kd.R_bound h_) (fun k_ q_ => q_.1.elim Or.inl (fun z_ => Or.inr ⟨z_, q_.2.2.1⟩)))
  ·refine ⟨_, rfl, fun v x => (by simp only [putAll, Act.put, List.setIfInBounds_toArray, List.set_cons_zero, List.set_cons_succ, Nat.reduceEqDiff, ↓reduceIte]; first | done | rfl), fun T v W hW hBW hc K a1 ha hK => ?_⟩
   simp only [putAll, Act.put, List.setIfInBounds_toArray, List.set_cons_zero, List.set_cons_succ] at ha
   subst ha
   have HBW := am (bs_ HB.out hW)
   refine gs_ Try.func84 #[.slice A0_8 l0_8.length c0_8] ?_
   with_reducible refine (spec_l15Lists.calls k _ _ l0_8 s8 _ ?s0 HC8.out E4.out).mono ?_
   (case s0 => exact cb_ HR8.out HBW.out)
   rintro e w1 ⟨u_, rfl, h_, hb⟩
   exact ⟨_, rfl, hK _ w1 (bs_ hW hb) hb.size (fun k_ hl_ _ => hb.block k_ hl_) (sqq_ h_ hBW (fun k_ g_ q_ => Or.inr q_))⟩
  ·refine ⟨_, rfl, fun v x => (by simp only [putAll, Act.put, List.setIfInBounds_toArray, List.set_cons_zero, List.set_cons_succ, Nat.reduceEqDiff, ↓reduceIte]; first | done | rfl), fun T v W hW hBW hc K a1 ha hK => ?_⟩
   simp only [putAll, Act.put, List.setIfInBounds_toArray, List.set_cons_zero, List.set_cons_succ] at ha
   subst ha
   have HBW := am (bs_ HB.out hW)
   refine gs_ Try.func84 #[.slice A0_9 l0_9.length c0_9] ?_
   with_reducible refine (spec_l15Lists.calls k _ _ l0_9 s9 _ ?s0 HC9.out E5.out).mono ?_
   (case s0 => exact cb_ HR9.out HBW.out)
   rintro e w1 ⟨u_, rfl, h_, hb⟩
   exact ⟨_, rfl, hK _ w1 (bs_ hW hb) hb.size (fun k_ hl_ _ => hb.block k_ hl_) (sqq_ h_ hBW (fun k_ g_ q_ => Or.inr q_))⟩
 intro T_ v W hHeld hW hT_ hF
 obtain ⟨u2, e2, F2⟩ := hF 2 (by decide) (by decide)
 obtain ⟨u3, u4, e3, F3, F4⟩ := hF 5 (by decide) (by decide)
 have F5 := hF 8 (by decide) (by decide); obtain ⟨u5, e5⟩ : ∃ u_, v 8 = u_ := ⟨_, rfl⟩; replace F5 : (Ev.S (Kd.slice 72 k72) 42 w4.heap.size b5).F (fun k => T_ k = 5) u5 W := by have := F5; rw [e5] at this; exact this
 have F6 := hF 12 (by decide) (by decide); obtain ⟨u6, e6⟩ : ∃ u_, v 12 = u_ := ⟨_, rfl⟩; replace F6 : (Ev.R (Kd.int .i64) 3 w4.heap.size l0_6).F (fun k => T_ k = 6) u6 W := by have := F6; rw [e6] at this; exact this
 have F7 := hF 16 (by decide) (by decide); obtain ⟨u7, e7⟩ : ∃ u_, v 16 = u_ := ⟨_, rfl⟩; replace F7 : (Ev.R (Kd.int .i64) 3 w4.heap.size l0_7).F (fun k => T_ k = 7) u7 W := by have := F7; rw [e7] at this; exact this
 have F8 := hF 19 (by decide) (by decide); obtain ⟨u8, e8⟩ : ∃ u_, v 19 = u_ := ⟨_, rfl⟩; replace F8 : (Ev.S (Kd.slice 72 k72) 42 w4.heap.size s8).F (fun k => T_ k = 8) u8 W := by have := F8; rw [e8] at this; exact this
 have F9 := hF 22 (by decide) (by decide); obtain ⟨u9, e9⟩ : ∃ u_, v 22 = u_ := ⟨_, rfl⟩; replace F9 : (Ev.S (Kd.slice 72 k72) 42 w4.heap.size s9).F (fun k => T_ k = 9) u9 W := by have := F9; rw [e9] at this; exact this
 obtain ⟨u10, e10⟩ : ∃ u_, v 9 = u_ := ⟨_, rfl⟩; obtain ⟨u11, e11⟩ : ∃ u_, v 13 = u_ := ⟨_, rfl⟩
 obtain ⟨TT, _, hM⟩ := marks_tag0 (fun k h => hT_ k h) F2 F3 F4 F5 F6 F7 F8 F9
 refine norm_ (a' := ?_) ?_ ?_
 rotate_left
 ·simp only [putAll, Act.put, List.setIfInBounds_toArray, List.set_cons_zero, List.set_cons_succ, e2, e3, e5, e6, e7, e8, e9, e10, e11]
  rfl
 clear e2 e3 e5 e6 e7 e8 e9 e10 e11 F2 F3 F4 F5 F6 F7 F8 F9 hF
 have M := am hM
 clear hM
 obtain ⟨X2, d2, e_⟩ := Kd.R_slice M.out.h2; subst e_
 obtain ⟨X3, d3, e_⟩ := Kd.R_slice M.out.h3; subst e_
 obtain ⟨X4, d4, e_⟩ := Kd.R_slice M.out.h4; subst e_
 obtain ⟨X5, d5, e_⟩ := Kd.S_slice M.out.h5; subst e_
 obtain ⟨X6, d6, e_⟩ := Kd.R_slice M.out.h6; subst e_
 obtain ⟨X7, d7, e_⟩ := Kd.R_slice M.out.h7; subst e_
 obtain ⟨X8, d8, e_⟩ := Kd.S_slice M.out.h8; subst e_
 obtain ⟨X9, d9, e_⟩ := Kd.S_slice M.out.h9; subst e_
 have T2 := am (show TT g2 = 0 from M.out.zlo (blk_lt B2.out))
 replace B1 := am (bk_ B1.out hW); replace B2 := am (bk_ B2.out hW); replace HB := am (bs_ HB.out hW)
 refine pk_ (v := .agg #[.int .i64 m1, .int .i64 m2, .slice X2 m3.length d2, .slice X3 t1.length d3, .slice X4 t2.length d4, .slice X5 b5.length d5, .slice X6 l0_6.length d6, .slice X7 l0_7.length d7, .slice X8 s8.length d8, .slice X9 s9.length d9, .int .i64 a0_10]) 25 28 (bt_ 27 67108863) ?_ (hy := by intro w'; go_simp)
 refine one_ (i := 26) (N := none) (bt_ 27 134217727) rfl rfl (by kernel_rfl) (by decide) (fun K hK => ?_)
 obtain ⟨z0, z1, z2, z3, z4, z5, z6, z7, z8, z9, z10, f0, f1, f2, f3, f4, f5, f6, f7, f8, f9, f10⟩ := cz11_ B2.out
 refine skip_ (w1 := ?_) (by rfl) rfl ?_ ?_
 rotate_left
 ·go_simp
  rfl
 clear z0 z1 z2 z3 z4 z5 z6 z7 z8 z9 z10 f0 f1 f2 f3 f4 f5 f6 f7 f8 f9 f10
 change K _ (st11_ _ g2 (.int .i64 m1) (.int .i64 m2) (.slice X2 m3.length d2) (.slice X3 t1.length d3) (.slice X4 t2.length d4) (.slice X5 b5.length d5) (.slice X6 l0_6.length d6) (.slice X7 l0_7.length d7) (.slice X8 s8.length d8) (.slice X9 s9.length d9) (.int .i64 a0_10))
 replace B1 := am ((st11_far N12.out : (st11_ _ g2 (.int .i64 m1) (.int .i64 m2) (.slice X2 m3.length d2) (.slice X3 t1.length d3) (.slice X4 t2.length d4) (.slice X5 b5.length d5) (.slice X6 l0_6.length d6) (.slice X7 l0_7.length d7) (.slice X8 s8.length d8) (.slice X9 s9.length d9) (.int .i64 a0_10)).heap[g1]? = _).trans B1.out)
 refine hK.out _ _ ⟨(blk_cell B1.out 0).trans rfl, (blk_cell B1.out 1).trans rfl, (blk_cell B1.out 2).trans rfl, (blk_cell B1.out 3).trans rfl, (blk_cell B1.out 4).trans rfl, (blk_cell B1.out 5).trans rfl, (blk_cell B1.out 6).trans rfl, (blk_cell B1.out 7).trans rfl, (blk_cell B1.out 8).trans rfl, (blk_cell B1.out 9).trans rfl, (blk_cell B1.out 10).trans rfl⟩ (fun _ => ?_)
 clear hK K hHeld
 refine done_ (by kernel_rfl) ?_
 replace M := am (M.out.move (w1 := st11_ _ g2 (.int .i64 m1) (.int .i64 m2) (.slice X2 m3.length d2) (.slice X3 t1.length d3) (.slice X4 t2.length d4) (.slice X5 b5.length d5) (.slice X6 l0_6.length d6) (.slice X7 l0_7.length d7) (.slice X8 s8.length d8) (.slice X9 s9.length d9) (.int .i64 a0_10)) (fun k_ h_ => st11_far (fun e_ => h_ (e_ ▸ T2.out))) (Nat.le_of_eq st11_size.symm)); replace B2 := am (st11_blk B2.out : (st11_ _ g2 (.int .i64 m1) (.int .i64 m2) (.slice X2 m3.length d2) (.slice X3 t1.length d3) (.slice X4 t2.length d4) (.slice X5 b5.length d5) (.slice X6 l0_6.length d6) (.slice X7 l0_7.length d7) (.slice X8 s8.length d8) (.slice X9 s9.length d9) (.int .i64 a0_10)).heap[g2]? = _); replace HB := am (st11_below HB.out G2.out : Below w.heap.size w (st11_ _ g2 (.int .i64 m1) (.int .i64 m2) (.slice X2 m3.length d2) (.slice X3 t1.length d3) (.slice X4 t2.length d4) (.slice X5 b5.length d5) (.slice X6 l0_6.length d6) (.slice X7 l0_7.length d7) (.slice X8 s8.length d8) (.slice X9 s9.length d9) (.int .i64 a0_10))); generalize st11_ _ g2 (.int .i64 m1) (.int .i64 m2) (.slice X2 m3.length d2) (.slice X3 t1.length d3) (.slice X4 t2.length d4) (.slice X5 b5.length d5) (.slice X6 l0_6.length d6) (.slice X7 l0_7.length d7) (.slice X8 s8.length d8) (.slice X9 s9.length d9) (.int .i64 a0_10) = w9 at *
 go_wp2
 refine bodyPost_ret (results_cell_row rfl _ _ g2 35 _ (0, 0) _ rfl (bq_ B2.out) Try.underlying35 rfl (by kernel_rfl)) rfl ?_
 exact ⟨TT, _, _, _, _, _, _, _, _, rfl, Marks.lower (M.out.belowV (Below.refl _ _)) HLE.out, bb_ HB.out⟩
theorem spec_l15Copy.calls (k : Nat) (a0_0 : Int) (a0_1 : Int) (A0_2 : Option Addr) (c0_2 : Nat) (l0_2 : List Int) (A0_3 : Option Addr) (c0_3 : Nat) (l0_3 : List Int) (A0_4 : Option Addr) (c0_4 : Nat) (l0_4 : List Int) (A0_5 : Option Addr) (c0_5 : Nat) (l0_5 : List (List S72)) (A0_6 : Option Addr) (c0_6 : Nat) (l0_6 : List Int) (A0_7 : Option Addr) (c0_7 : Nat) (l0_7 : List Int) (A0_8 : Option Addr) (c0_8 : Nat) (l0_8 : List (List S72)) (A0_9 : Option Addr) (c0_9 : Nat) (l0_9 : List (List S72)) (a0_10 : Int) (r1 : Int) (r2 : Int) (r3 : List Int) (r4 : List Int) (r5 : List Int) (r6 : List (List S72)) (r7 : List Int) (r8 : List Int) (r9 : List (List S72)) (r10 : List (List S72)) (r11 : Int) (w : World) (hr0_2 : Kd.C (Kd.int .i64) w A0_2 l0_2.length l0_2) (hc0_2 : l0_2.length ≤ c0_2) (hr0_3 : Kd.C (Kd.int .i64) w A0_3 l0_3.length l0_3) (hc0_3 : l0_3.length ≤ c0_3) (hr0_4 : Kd.C (Kd.int .i64) w A0_4 l0_4.length l0_4) (hc0_4 : l0_4.length ≤ c0_4) (hr0_5 : Kd.C (Kd.slice 72 k72) w A0_5 l0_5.length l0_5) (hc0_5 : l0_5.length ≤ c0_5) (hr0_6 : Kd.C (Kd.int .i64) w A0_6 l0_6.length l0_6) (hc0_6 : l0_6.length ≤ c0_6) (hr0_7 : Kd.C (Kd.int .i64) w A0_7 l0_7.length l0_7) (hc0_7 : l0_7.length ≤ c0_7) (hr0_8 : Kd.C (Kd.slice 72 k72) w A0_8 l0_8.length l0_8) (hc0_8 : l0_8.length ≤ c0_8) (hr0_9 : Kd.C (Kd.slice 72 k72) w A0_9 l0_9.length l0_9) (hc0_9 : l0_9.length ≤ c0_9) (h : spec_l15Copy.f k a0_0 a0_1 l0_2 l0_3 l0_4 l0_5 l0_6 l0_7 l0_8 l0_9 a0_10 = some (r1, r2, r3, r4, r5, r6, r7, r8, r9, r10, r11)) :
  Calls Try.prog 62 #[.agg #[.int .i64 a0_0, .int .i64 a0_1, .slice A0_2 l0_2.length c0_2, .slice A0_3 l0_3.length c0_3, .slice A0_4 l0_4.length c0_4, .slice A0_5 l0_5.length c0_5, .slice A0_6 l0_6.length c0_6, .slice A0_7 l0_7.length c0_7, .slice A0_8 l0_8.length c0_8, .slice A0_9 l0_9.length c0_9, .int .i64 a0_10]] w fun e w' => ∃ v2_ v3_ v4_ v5_ v6_ v7_ v8_ v9_ : Value, e = .returned (.agg #[.int .i64 r1, .int .i64 r2, v2_, v3_, v4_, v5_, v6_, v7_, v8_, v9_, .int .i64 r11]) ∧ Kd.R (Kd.int .i64) 3 w' w.heap.size (fun k_ => some k_ ≠ (v3_ : Value).ownBlock ∧ some k_ ≠ (v4_ : Value).ownBlock ∧ some k_ ≠ (v6_ : Value).ownBlock ∧ some k_ ≠ (v7_ : Value).ownBlock) v2_ r3 ∧ Kd.R (Kd.int .i64) 3 w' w.heap.size (fun k_ => some k_ ≠ (v2_ : Value).ownBlock ∧ some k_ ≠ (v4_ : Value).ownBlock ∧ some k_ ≠ (v6_ : Value).ownBlock ∧ some k_ ≠ (v7_ : Value).ownBlock) v3_ r4 ∧ Kd.R (Kd.int .i64) 3 w' w.heap.size (fun k_ => some k_ ≠ (v2_ : Value).ownBlock ∧ some k_ ≠ (v3_ : Value).ownBlock ∧ some k_ ≠ (v6_ : Value).ownBlock ∧ some k_ ≠ (v7_ : Value).ownBlock) v4_ r5 ∧ Kd.S (Kd.slice 72 k72) 42 w' w.heap.size (fun k_ => some k_ ≠ (v8_ : Value).ownBlock ∧ some k_ ≠ (v9_ : Value).ownBlock) v5_ r6 ∧ Kd.R (Kd.int .i64) 3 w' w.heap.size (fun k_ => some k_ ≠ (v2_ : Value).ownBlock ∧ some k_ ≠ (v3_ : Value).ownBlock ∧ some k_ ≠ (v4_ : Value).ownBlock ∧ some k_ ≠ (v7_ : Value).ownBlock) v6_ r7 ∧ Kd.R (Kd.int .i64) 3 w' w.heap.size (fun k_ => some k_ ≠ (v2_ : Value).ownBlock ∧ some k_ ≠ (v3_ : Value).ownBlock ∧ some k_ ≠ (v4_ : Value).ownBlock ∧ some k_ ≠ (v6_ : Value).ownBlock) v7_ r8 ∧ Kd.S (Kd.slice 72 k72) 42 w' w.heap.size (fun k_ => some k_ ≠ (v5_ : Value).ownBlock ∧ some k_ ≠ (v9_ : Value).ownBlock) v8_ r9 ∧ Kd.S (Kd.slice 72 k72) 42 w' w.heap.size (fun k_ => some k_ ≠ (v5_ : Value).ownBlock ∧ some k_ ≠ (v8_ : Value).ownBlock) v9_ r10 ∧ Below w.heap.size w w' :=
 (spec_l15Copy.callsM k a0_0 a0_1 _ _ l0_2 _ _ l0_3 _ _ l0_4 _ _ l0_5 _ _ l0_6 _ _ l0_7 _ _ l0_8 _ _ l0_9 a0_10 r1 r2 r3 r4 r5 r6 r7 r8 r9 r10 r11 w hr0_2 hc0_2 hr0_3 hc0_3 hr0_4 hc0_4 hr0_5 hc0_5 hr0_6 hc0_6 hr0_7 hc0_7 hr0_8 hc0_8 hr0_9 hc0_9 h).mono (fun e w' ⟨T, v2, v3, v4, v5, v6, v7, v8, v9, he, hM, hb⟩ => by obtain ⟨s2, s3, s4, s5, s6, s7, s8, s9⟩ := hM.std; exact ⟨_, _, _, _, _, _, _, _, he, s2, s3, s4, s5, s6, s7, s8, s9, hb⟩)
end Go.Proofs.Yteiemoooelpdaaa.PFnCreditSum
-- thin
