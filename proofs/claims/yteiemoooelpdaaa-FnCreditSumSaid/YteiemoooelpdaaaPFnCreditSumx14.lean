
import Derived.Test.YteiemoooelpdaaaPFnCreditSumx0
import Derived.Test.YteiemoooelpdaaaPFnCreditSumx1
import Derived.Test.YteiemoooelpdaaaPFnCreditSumx13
namespace Go.Proofs.Yteiemoooelpdaaa.PFnCreditSum
open Go.RowKit Go.Proofs.YteiemoooelpdaaaW.PrintWords Go.Proofs.YteiemoooelpdaaaW.PrintLast Go.Proofs.YteiemoooelpdaaaW.PrintMore
attribute [local go_sem] max2_int min2_int max_two min_two max_three min_three max_four min_four
set_option linter.unusedVariables false
set_option maxHeartbeats 8000000
set_option maxRecDepth 100000
set_option linter.unusedSimpArgs false
mutual
def spec_FirstFrom.l0 : Nat → List Int → Int → Int → Int → Option (Int)
 | 0, _, _, _, _ => none
 | k + 1, x0, x1, x5, x6 => if x6 < (x0.length : Int) then (if 0 ≤ x6 then ((spec_l01In.f (rd x0 x6) 0 9).bind fun t406 => (if t406 = true then ((spec_l01In.f x1 0 9).bind fun t407 => (spec_FirstFrom.j1 k x0 x1 x5 x6 (!t407))) else (spec_FirstFrom.j1 k x0 x1 x5 x6 true))) else (none)) else (some x5)
def spec_FirstFrom.j1 : Nat → List Int → Int → Int → Int → Bool → Option (Int)
 | 0, _, _, _, _, _ => none
 | k + 1, x0, x1, x5, x6, x23 => if x23 = true then (some (-1)) else (if x5 < 0 then (if 0 ≤ x6 then (if x6 < (x0.length : Int) then (spec_FirstFrom.l0 k x0 x1 (rd x0 x6) (wrap64 (x6 + 1))) else (none)) else (none)) else (if 0 ≤ x6 then (if x6 < (x0.length : Int) then (if (Int.tmod (wrap64 ((wrap64 ((rd x0 x6) - x1)) + 10)) 10) < (Int.tmod (wrap64 ((wrap64 (x5 - x1)) + 10)) 10) then (spec_FirstFrom.l0 k x0 x1 (rd x0 x6) (wrap64 (x6 + 1))) else (spec_FirstFrom.l0 k x0 x1 x5 (wrap64 (x6 + 1)))) else (none)) else (none)))
end
def spec_FirstFrom.f (k : Nat) (l0 : List Int) (a1 : Int) : Option (Int) := spec_FirstFrom.l0 k l0 a1 (-1) 0
theorem spec_FirstFrom.e0 {P : Prop} (h : P := by
 go_wp2
 go_roundg kj3
 case measure => have := HK1.out; have := HJ3.out; omega
 case rel => exact ⟨(rd l0 x6_1), (wrap64 (x6_1 + 1)), ef_, ef_, H', ⟨by have := HK1.out; have := HJ3.out; omega⟩, by repeat (first | exact Drawn0.refl _ | apply Drawn0.step)⟩) : P := h
theorem spec_FirstFrom.calls (k : Nat) (A0 : Option Addr) (c0 : Nat) (l0 : List Int) (a1 : Int) (r : Int) (w : World) (hr0 : Kd.C (Kd.int .i64) w A0 l0.length l0) (hc0 : l0.length ≤ c0) (h : spec_FirstFrom.f k l0 a1 = some r) :
  Calls Try.prog 102 #[.slice A0 l0.length c0, .int .i64 a1] w fun e w' => e = .returned (.int .i64 r) ∧ Drawn0 w w' := by
 have HR0 := am hr0
 have HC0 := am hc0
 clear hr0 hc0
 have H : (spec_FirstFrom.l0 k l0 a1 (-1) 0) = some r := h
 clear h
 have H' := am H
 clear H
 go_enter Try.func102, Try.ntmps102
 go_wp2
 go_loopg [5, 6] k (fun kq v5 v6 w' => ∃ (x5_1 : Int) (x6_1 : Int), v5 = .int .i64 x5_1 ∧ v6 = .int .i64 x6_1 ∧ Aside0 (spec_FirstFrom.l0 kq l0 a1 x5_1 x6_1 = some r) ∧ Aside0 (kq ≤ k) ∧ Drawn0 w w')
 case atStart => exact ⟨((-1)), (0), ef_, ef_, H', ⟨Nat.le_refl _⟩, by repeat (first | exact Drawn0.refl _ | apply Drawn0.step)⟩
 clear H'
 obtain ⟨x5_1, x6_1, rfl, rfl, HA, HK1, ⟨m1, rfl⟩⟩ := hrel
 obtain _ | k1 := gk
 ·exact absurd HA.out (by simp [spec_FirstFrom.l0])
 have H := HA.out
 clear HA
 simp only [spec_FirstFrom.l0] at H
 by_cases c3 : x6_1 < (l0.length : Int)
 rotate_left
 ·rw [if_neg c3] at H
  have c3b0 : decide (x6_1 < (l0.length : Int)) = false := decide_eq_false c3
  clear c3
  obtain rfl := Option.some.inj H
  go_wp2
  go_ret
  exact ⟨by first | rfl | (simp; done) | (simp [*]; done), by repeat (first | exact Drawn0.refl _ | apply Drawn0.step)⟩
 rw [if_pos c3] at H
 have c3b0 : decide (x6_1 < (l0.length : Int)) = true := decide_eq_true c3
 clear c3
 have HC4 := am H
 clear H
 go_upto_region 5 with (fail)
 go_cut [23] (fun v23 wc => ∃ (kq : Nat) (x23_3 : Bool), v23 = .bool x23_3 ∧ Aside0 (spec_FirstFrom.j1 kq l0 a1 x5_1 x6_1 x23_3 = some r) ∧ Aside0 (kq ≤ k1) ∧ Drawn0 w wc)
 case first =>
  have H := HC4.out
  clear HC4
  by_cases c5 : 0 ≤ x6_1
  rotate_left
  ·rw [if_neg c5] at H
   exact absurd H (by simp)
  rw [if_pos c5] at H
  have c5b0 : decide (0 ≤ x6_1) = true := decide_eq_true c5
  clear c5
  (first | rw [c5b0] | (simp only [i64_w, i32_w]; rw [c5b0]) | skip)
  obtain ⟨t406, A6, H⟩ := bi_ H
  by_cases c7 : t406 = true
  rotate_left
  ·replace c7 := Bool.eq_false_iff.mpr c7
   subst c7
   rw [if_neg (show ¬ (false = true) by decide)] at H
   have H' := am H
   clear H
   have p405 : 0 ≤ (x6_1 : Int) := of_decide_eq_true dg_
   have q405 : x6_1 < (l0.length : Int) := of_decide_eq_true dg_
   obtain ⟨ad405, e405, hx405_0⟩ := Kd.at_int HR0.out x6_1 p405 q405
   cases e405
   replace p405 := eq_true p405
   replace q405 := eq_true q405
   go_wp2_with (first | ((with_reducible refine gate_callee (f := 40) rfl ?_); refine gm_ (some 17) Try.func40 #[.int .i64 (rd l0 x6_1), .int .i64 0, .int .i64 9] rfl ?_; (with_reducible refine (spec_l01In.calls (rd l0 x6_1) 0 9 false _ A6.out).mono ?_); rintro e w' ⟨rfl, ⟨nd, rfl⟩⟩; refine ⟨_, rfl, ?_⟩))
   go_meet
   case rel => exact ⟨_, (true), ef_, H', ⟨by have := HK1.out; first | omega | exact Nat.le_refl _⟩, by repeat (first | exact Drawn0.refl _ | apply Drawn0.step)⟩
  subst c7
  rw [if_pos rfl] at H
  obtain ⟨t407, A8, H⟩ := bi_ H
  have H' := am H
  clear H
  have p405 : 0 ≤ (x6_1 : Int) := of_decide_eq_true dg_
  have q405 : x6_1 < (l0.length : Int) := of_decide_eq_true dg_
  obtain ⟨ad405, e405, hx405_0⟩ := Kd.at_int HR0.out x6_1 p405 q405
  cases e405
  replace p405 := eq_true p405
  replace q405 := eq_true q405
  go_wp2_with (first | ((with_reducible refine gate_callee (f := 40) rfl ?_); refine gm_ (some 17) Try.func40 #[.int .i64 (rd l0 x6_1), .int .i64 0, .int .i64 9] rfl ?_; (with_reducible refine (spec_l01In.calls (rd l0 x6_1) 0 9 true _ A6.out).mono ?_); rintro e w' ⟨rfl, ⟨nd, rfl⟩⟩; refine ⟨_, rfl, ?_⟩) | (go_at_call 40; (with_reducible refine (spec_l01In.calls a1 0 9 t407 _ A8.out).mono ?_); rintro e w' ⟨rfl, ⟨nd, rfl⟩⟩))
  go_meet
  case rel => exact ⟨_, (!t407), ef_, H', ⟨by have := HK1.out; first | omega | exact Nat.le_refl _⟩, by repeat (first | exact Drawn0.refl _ | apply Drawn0.step)⟩
 case rest =>
  clear HC4
  try clear c3
  try clear c3b0
  obtain ⟨kq, x23_3, rfl, HA, HJ3, ⟨mc3, rfl⟩⟩ := hcut
  cases kq with
  | zero => exact absurd HA.out (by simp [spec_FirstFrom.j1])
  | succ kj3 =>
   have H := HA.out
   clear HA
   simp only [spec_FirstFrom.j1] at H
   by_cases c9 : x23_3 = true
   ·subst c9
    rw [if_pos rfl] at H
    obtain rfl := Option.some.inj H
    go_wp2
    go_ret
    exact ⟨by first | rfl | (simp; done) | (simp [*]; done), by repeat (first | exact Drawn0.refl _ | apply Drawn0.step)⟩
   replace c9 := Bool.eq_false_iff.mpr c9
   subst c9
   rw [if_neg (show ¬ (false = true) by decide)] at H
   by_cases c10 : x5_1 < 0
   ·rw [if_pos c10] at H
    have c10b0 : decide (x5_1 < 0) = true := decide_eq_true c10
    clear c10
    by_cases c11 : 0 ≤ x6_1
    rotate_left
    ·rw [if_neg c11] at H
     exact absurd H (by simp)
    rw [if_pos c11] at H
    have c11b0 : decide (0 ≤ x6_1) = true := decide_eq_true c11
    clear c11
    by_cases c12 : x6_1 < (l0.length : Int)
    rotate_left
    ·rw [if_neg c12] at H
     exact absurd H (by simp)
    rw [if_pos c12] at H
    have c12b0 : decide (x6_1 < (l0.length : Int)) = true := decide_eq_true c12
    clear c12
    have H' := am H
    clear H
    have p408 : 0 ≤ (x6_1 : Int) := of_decide_eq_true dg_
    have q408 : x6_1 < (l0.length : Int) := of_decide_eq_true dg_
    obtain ⟨ad408, e408, hx408_0⟩ := Kd.at_int HR0.out x6_1 p408 q408
    cases e408
    replace p408 := eq_true p408
    replace q408 := eq_true q408
    exact spec_FirstFrom.e0
   rw [if_neg c10] at H
   have c10b0 : decide (x5_1 < 0) = false := decide_eq_false c10
   clear c10
   by_cases c13 : 0 ≤ x6_1
   rotate_left
   ·rw [if_neg c13] at H
    exact absurd H (by simp)
   rw [if_pos c13] at H
   have c13b0 : decide (0 ≤ x6_1) = true := decide_eq_true c13
   clear c13
   by_cases c14 : x6_1 < (l0.length : Int)
   rotate_left
   ·rw [if_neg c14] at H
    exact absurd H (by simp)
   rw [if_pos c14] at H
   have c14b0 : decide (x6_1 < (l0.length : Int)) = true := decide_eq_true c14
   clear c14
   by_cases c15 : (Int.tmod (wrap64 ((wrap64 ((rd l0 x6_1) - a1)) + 10)) 10) < (Int.tmod (wrap64 ((wrap64 (x5_1 - a1)) + 10)) 10)
   rotate_left
   ·rw [if_neg c15] at H
    have c15b0 : decide ((Int.tmod (wrap64 ((wrap64 ((rd l0 x6_1) - a1)) + 10)) 10) < (Int.tmod (wrap64 ((wrap64 (x5_1 - a1)) + 10)) 10)) = false := decide_eq_false c15
    clear c15
    have H' := am H
    clear H
    have p409 : 0 ≤ (x6_1 : Int) := of_decide_eq_true dg_
    have q409 : x6_1 < (l0.length : Int) := of_decide_eq_true dg_
    obtain ⟨ad409, e409, hx409_0⟩ := Kd.at_int HR0.out x6_1 p409 q409
    cases e409
    replace p409 := eq_true p409
    replace q409 := eq_true q409
    go_wp2
    go_roundg kj3
    case measure => have := HK1.out; have := HJ3.out; omega
    case rel => exact ⟨(x5_1), (wrap64 (x6_1 + 1)), ef_, ef_, H', ⟨by have := HK1.out; have := HJ3.out; omega⟩, by repeat (first | exact Drawn0.refl _ | apply Drawn0.step)⟩
   rw [if_pos c15] at H
   have c15b0 : decide ((Int.tmod (wrap64 ((wrap64 ((rd l0 x6_1) - a1)) + 10)) 10) < (Int.tmod (wrap64 ((wrap64 (x5_1 - a1)) + 10)) 10)) = true := decide_eq_true c15
   clear c15
   have H' := am H
   clear H
   have p409 : 0 ≤ (x6_1 : Int) := of_decide_eq_true dg_
   have q409 : x6_1 < (l0.length : Int) := of_decide_eq_true dg_
   obtain ⟨ad409, e409, hx409_0⟩ := Kd.at_int HR0.out x6_1 p409 q409
   cases e409
   replace p409 := eq_true p409
   replace q409 := eq_true q409
   have p410 : 0 ≤ (x6_1 : Int) := of_decide_eq_true dg_
   have q410 : x6_1 < (l0.length : Int) := of_decide_eq_true dg_
   obtain ⟨ad410, e410, hx410_0⟩ := Kd.at_int HR0.out x6_1 p410 q410
   obtain rfl : ad409 = ad410 := (by injection e410)
   replace p410 := eq_true p410
   replace q410 := eq_true q410
   exact spec_FirstFrom.e0
mutual
def spec_l18Grants.l0 : Nat → Int → List (S107) → List Bool → Int → Int → Int → List Int → List Int → List Int → List (List (S72)) → List Int → List Int → List (List (S72)) → List (List (S72)) → Int → Option ((List (S107)))
 | 0, _, _, _, _, _, _, _, _, _, _, _, _, _, _, _ => none
 | k + 1, x1, x5, x6, x7, x412000, x412001, x412002, x412003, x412004, x412005, x412006, x412007, x412008, x412009, x412010 => if x7 ≤ 4 then (spec_l18Grants.l1 k x1 x5 x6 x7 (([] : List Int)) 0 x412000 x412001 x412002 x412003 x412004 x412005 x412006 x412007 x412008 x412009 x412010) else (some x5)
def spec_l18Grants.l1 : Nat → Int → List (S107) → List Bool → Int → List Int → Int → Int → Int → List Int → List Int → List Int → List (List (S72)) → List Int → List Int → List (List (S72)) → List (List (S72)) → Int → Option ((List (S107)))
 | 0, _, _, _, _, _, _, _, _, _, _, _, _, _, _, _, _, _ => none
 | k + 1, x1, x5, x6, x7, x8, x9, x412000, x412001, x412002, x412003, x412004, x412005, x412006, x412007, x412008, x412009, x412010 => if x9 < 10 then (if 0 ≤ (wrap64 (Int.tdiv x9 2)) then (if (wrap64 (Int.tdiv x9 2)) < (x6.length : Int) then (if (rdOf false x6 (wrap64 (Int.tdiv x9 2)) = true) then (spec_l18Grants.l1 k x1 x5 x6 x7 x8 (wrap64 (x9 + 1)) x412000 x412001 x412002 x412003 x412004 x412005 x412006 x412007 x412008 x412009 x412010) else ((spec_l17Request.f k x412000 x412001 x412002 x412003 x412004 x412005 x412006 x412007 x412008 x412009 x412010 x1 x9 x7).bind fun t422 => (if t422 = true then (if x8.length < 17592186044416 then (spec_l18Grants.l1 k x1 x5 x6 x7 (x8 ++ [x9]) (wrap64 (x9 + 1)) x412000 x412001 x412002 x412003 x412004 x412005 x412006 x412007 x412008 x412009 x412010) else (none)) else (spec_l18Grants.l1 k x1 x5 x6 x7 x8 (wrap64 (x9 + 1)) x412000 x412001 x412002 x412003 x412004 x412005 x412006 x412007 x412008 x412009 x412010)))) else (none)) else (none)) else (if 0 ≤ (wrap64 ((wrap64 (5 * x1)) + x7)) then (if (wrap64 ((wrap64 (5 * x1)) + x7)) < (x412007.length : Int) then ((spec_FirstFrom.f k x8 (rd x412007 (wrap64 ((wrap64 (5 * x1)) + x7)))).bind fun t427 => (if t427 ≥ 0 then (if 0 ≤ (wrap64 (Int.tdiv t427 2)) then (if (wrap64 (Int.tdiv t427 2)) < (x6.length : Int) then (if x5.length < 5864062014805 then (spec_l18Grants.l0 k x1 (x5 ++ [(⟨x1, x7, t427⟩ : S107)]) (x6.set ((wrap64 (Int.tdiv t427 2)) : Int).toNat true) (wrap64 (x7 + 1)) x412000 x412001 x412002 x412003 x412004 x412005 x412006 x412007 x412008 x412009 x412010) else (none)) else (none)) else (none)) else (spec_l18Grants.l0 k x1 x5 x6 (wrap64 (x7 + 1)) x412000 x412001 x412002 x412003 x412004 x412005 x412006 x412007 x412008 x412009 x412010))) else (none)) else (none))
end
def spec_l18Grants.f (k : Nat) (a0_0 : Int) (a0_1 : Int) (l0_2 : List Int) (l0_3 : List Int) (l0_4 : List Int) (l0_5 : List (List (S72))) (l0_6 : List Int) (l0_7 : List Int) (l0_8 : List (List (S72))) (l0_9 : List (List (S72))) (a0_10 : Int) (a1 : Int) : Option ((List (S107))) := if 5 ≤ 281474976710656 then (spec_l18Grants.l0 k a1 (([] : List (S107))) (List.replicate 5 false) 0 a0_0 a0_1 l0_2 l0_3 l0_4 l0_5 l0_6 l0_7 l0_8 l0_9 a0_10) else (none)
theorem spec_l18Grants.calls (k : Nat) (a0_0 : Int) (a0_1 : Int) (A0_2 : Option Addr) (c0_2 : Nat) (l0_2 : List Int) (A0_3 : Option Addr) (c0_3 : Nat) (l0_3 : List Int) (A0_4 : Option Addr) (c0_4 : Nat) (l0_4 : List Int) (A0_5 : Option Addr) (c0_5 : Nat) (l0_5 : List (List (S72))) (A0_6 : Option Addr) (c0_6 : Nat) (l0_6 : List Int) (A0_7 : Option Addr) (c0_7 : Nat) (l0_7 : List Int) (A0_8 : Option Addr) (c0_8 : Nat) (l0_8 : List (List (S72))) (A0_9 : Option Addr) (c0_9 : Nat) (l0_9 : List (List (S72))) (a0_10 : Int) (a1 : Int) (r : List (S107)) (w : World) (hr0_2 : Kd.C (Kd.int .i64) w A0_2 l0_2.length l0_2) (hc0_2 : l0_2.length ≤ c0_2) (hr0_3 : Kd.C (Kd.int .i64) w A0_3 l0_3.length l0_3) (hc0_3 : l0_3.length ≤ c0_3) (hr0_4 : Kd.C (Kd.int .i64) w A0_4 l0_4.length l0_4) (hc0_4 : l0_4.length ≤ c0_4) (hr0_5 : Kd.C (Kd.slice 72 k72) w A0_5 l0_5.length l0_5) (hc0_5 : l0_5.length ≤ c0_5) (hr0_6 : Kd.C (Kd.int .i64) w A0_6 l0_6.length l0_6) (hc0_6 : l0_6.length ≤ c0_6) (hr0_7 : Kd.C (Kd.int .i64) w A0_7 l0_7.length l0_7) (hc0_7 : l0_7.length ≤ c0_7) (hr0_8 : Kd.C (Kd.slice 72 k72) w A0_8 l0_8.length l0_8) (hc0_8 : l0_8.length ≤ c0_8) (hr0_9 : Kd.C (Kd.slice 72 k72) w A0_9 l0_9.length l0_9) (hc0_9 : l0_9.length ≤ c0_9) (h : spec_l18Grants.f k a0_0 a0_1 l0_2 l0_3 l0_4 l0_5 l0_6 l0_7 l0_8 l0_9 a0_10 a1 = some r) :
  Calls Try.prog 100 #[.agg #[.int .i64 a0_0, .int .i64 a0_1, .slice A0_2 l0_2.length c0_2, .slice A0_3 l0_3.length c0_3, .slice A0_4 l0_4.length c0_4, .slice A0_5 l0_5.length c0_5, .slice A0_6 l0_6.length c0_6, .slice A0_7 l0_7.length c0_7, .slice A0_8 l0_8.length c0_8, .slice A0_9 l0_9.length c0_9, .int .i64 a0_10], .int .i64 a1] w fun e w' => ∃ v0_ : Value, e = .returned (v0_) ∧ Kd.R k107 107 w' w.heap.size (fun _ => True) v0_ r ∧ Below w.heap.size w w' := by
 have hu35 := Try.underlying35
 have hu107 := Try.underlying107
 obtain ⟨HR0_2, HC0_2, HR0_3, HC0_3, HR0_4, HC0_4, HR0_5, HC0_5, HR0_6, HC0_6, HR0_7, HC0_7, HR0_8, HC0_8, HR0_9, HC0_9⟩ := a16_ hr0_2 hc0_2 hr0_3 hc0_3 hr0_4 hc0_4 hr0_5 hc0_5 hr0_6 hc0_6 hr0_7 hc0_7 hr0_8 hc0_8 hr0_9 hc0_9; clear hr0_2 hc0_2 hr0_3 hc0_3 hr0_4 hc0_4 hr0_5 hc0_5 hr0_6 hc0_6 hr0_7 hc0_7 hr0_8 hc0_8 hr0_9 hc0_9
 have HB := am (Below.refl w.heap.size w)
 have H : (if 5 ≤ 281474976710656 then (spec_l18Grants.l0 k a1 (([] : List (S107))) (List.replicate 5 false) 0 a0_0 a0_1 l0_2 l0_3 l0_4 l0_5 l0_6 l0_7 l0_8 l0_9 a0_10) else (none)) = some r := h
 clear h
 obtain ⟨y412, hy412⟩ : ∃ y_ : List (S107), y_ = (([] : List (S107))) := ⟨_, rfl⟩
 replace H : (if 5 ≤ 281474976710656 then (spec_l18Grants.l0 k a1 y412 (List.replicate 5 false) 0 a0_0 a0_1 l0_2 l0_3 l0_4 l0_5 l0_6 l0_7 l0_8 l0_9 a0_10) else (none)) = some r := ry_ hy412 H
 have Ny412 := am hy412
 clear hy412
 by_cases c3 : 5 ≤ 281474976710656
 ·rw [if_pos c3] at H
  have c3b0 := eq_true c3
  have c3b1 : decide (5 ≤ 281474976710656) = true := decide_eq_true c3
  clear c3
  obtain ⟨y415, hy415⟩ : ∃ y_ : List Bool, y_ = (List.replicate 5 false) := ⟨_, rfl⟩
  replace H : (spec_l18Grants.l0 k a1 y412 y415 0 a0_0 a0_1 l0_2 l0_3 l0_4 l0_5 l0_6 l0_7 l0_8 l0_9 a0_10) = some r := ry_ hy415 H
  have Ny415 := am hy415
  clear hy415
  have H' := am H
  clear H
  go_enter Try.func100, Try.ntmps100
  go_wp2_with (first | ((with_reducible refine gate_dst (N := 2) rfl ?_); refine bx_ 2 #[.int .i64 a0_0, .int .i64 a0_1, .slice A0_2 l0_2.length c0_2, .slice A0_3 l0_3.length c0_3, .slice A0_4 l0_4.length c0_4, .slice A0_5 l0_5.length c0_5, .slice A0_6 l0_6.length c0_6, .slice A0_7 l0_7.length c0_7, .slice A0_8 l0_8.length c0_8, .slice A0_9 l0_9.length c0_9, .int .i64 a0_10] 35 ?_; intro gb411 hg w4 hbox hb; have BK411 := am (hbox); have GW411 := gw_ hg HB; replace HB := h9_ HB hb; clear hb hbox hg) | ((with_reducible refine gate_dst (N := 11) rfl ?_); refine Kd.R_lit k107 _ 107 ?hg (N := 11) ?hd (xs := ([] : List (S107))) (inner := []) (ok := fun _ => True) (okp := fun _ => True) ?hr ?hp (fun _ hk => hk) trivial (Below.refl _ _) (Nat.le_refl _) (by simp) ?_; (case hd => rfl); (case hg => rfl); (case hr => first | (go_simp; done) | (go_simp; rfl)); (case hp => exact (Reps.none _ _)); intro v413 w5 ho6 hb hg_ hnew_; clear hg_ hnew_; (first | rw [← Ny412.out] at ho6 | (simp only [Int.reduceToNat] at ho6; rw [← Ny412.out] at ho6)); have HO414 := am (Kd.R_lower ho6 (bz_ HB.out)); replace BK411 := kb_ BK411 hb; replace HB := h9_ HB hb; clear hb ho6) | ((with_reducible refine gate_dst (N := 12) rfl ?_); refine Kd.R_make Kd.bool _ 4 rfl (N := 12) rfl 114 _ _ rfl 5 rfl rfl Try.underlying114 (.bool false) 1 info4 rfl (by decide) (by omega) false (ok := fun _ => True) (okp := fun _ => True) rfl (fun _ hk => hk) trivial (by omega) (by omega) (Below.refl _ _) (Nat.le_refl _) ?_; intro v416 w7 ho8 hb hg_ hnew_; clear hg_ hnew_; (first | rw [← Ny415.out] at ho8 | (simp only [Int.reduceToNat] at ho8; rw [← Ny415.out] at ho8)); replace HO414 := rb_ HO414 hb; have HO417 := am (Kd.R_lower ho8 (bz_ HB.out)); replace BK411 := kb_ BK411 hb; replace HB := h9_ HB hb; clear hb ho8))
  go_loopg [5, 7] k (fun kq v5 v7 w' => ∃ (x5_1 : List (S107)) (x6_1 : List Bool) (x7_1 : Int), v7 = .int .i64 x7_1 ∧ Aside0 (spec_l18Grants.l0 kq a1 x5_1 x6_1 x7_1 a0_0 a0_1 l0_2 l0_3 l0_4 l0_5 l0_6 l0_7 l0_8 l0_9 a0_10 = some r) ∧ Aside0 (kq ≤ k) ∧ Aside0 (Kd.R k107 107 w' w.heap.size (fun _ => True) v5 x5_1) ∧ Aside0 (Kd.R Kd.bool 4 w' w.heap.size (fun _ => True) v416 x6_1) ∧ Aside0 (w'.heap[gb411]? = some (.cells #[.int .i64 a0_0, .int .i64 a0_1, (.slice A0_2 l0_2.length c0_2), (.slice A0_3 l0_3.length c0_3), (.slice A0_4 l0_4.length c0_4), (.slice A0_5 l0_5.length c0_5), (.slice A0_6 l0_6.length c0_6), (.slice A0_7 l0_7.length c0_7), (.slice A0_8 l0_8.length c0_8), (.slice A0_9 l0_9.length c0_9), .int .i64 a0_10] 35 (0, 0))) ∧ Aside0 (Below w.heap.size w w'))
  case atStart => exact ⟨(y412), (y415), (0), ef_, H', ⟨Nat.le_refl _⟩, ⟨ra_ HO414.out⟩, ⟨ra_ HO417.out⟩, ⟨bq_ BK411.out⟩, ⟨bb_ HB.out⟩⟩
  clear H'
  try clear c3
  try clear c3b0
  try clear c3b1
  obtain ⟨x5_1, x6_1, x7_1, rfl, HA, HK1, HO_5, HO_6, BK411, HB⟩ := hrel
  obtain _ | k1 := gk
  ·exact absurd HA.out (by simp [spec_l18Grants.l0])
  have H := HA.out
  clear HA
  simp only [spec_l18Grants.l0] at H
  by_cases c9 : x7_1 ≤ 4
  rotate_left
  ·rw [if_neg c9] at H
   have c9b0 : decide (x7_1 ≤ 4) = false := decide_eq_false c9
   clear c9
   obtain rfl := Option.some.inj H
   go_wp2
   go_ret
   exact ⟨_, fin_, ra_ HO_5.out, bb_ HB.out⟩
  rw [if_pos c9] at H
  have c9b0 : decide (x7_1 ≤ 4) = true := decide_eq_true c9
  clear c9
  obtain ⟨y418, hy418⟩ : ∃ y_ : List Int, y_ = (([] : List Int)) := ⟨_, rfl⟩
  replace H : (spec_l18Grants.l1 k1 a1 x5_1 x6_1 x7_1 y418 0 a0_0 a0_1 l0_2 l0_3 l0_4 l0_5 l0_6 l0_7 l0_8 l0_9 a0_10) = some r := ry_ hy418 H
  have Ny418 := am hy418
  clear hy418
  have H' := am H
  clear H
  go_wp2_with (first | ((with_reducible refine gate_dst (N := 17) rfl ?_); refine Kd.R_lit (Kd.int .i64) _ 3 ?hg (N := 17) ?hd (xs := ([] : List Int)) (inner := []) (ok := fun _ => True) (okp := fun _ => True) ?hr ?hp (fun _ hk => hk) trivial (Below.refl _ _) (Nat.le_refl _) (by simp) ?_; (case hd => rfl); (case hg => rfl); (case hr => first | (go_simp; done) | (go_simp; rfl)); (case hp => exact (Reps.none _ _)); intro v419 w10 ho11 hb hg_ hnew_; clear hg_ hnew_; (first | rw [← Ny418.out] at ho11 | (simp only [Int.reduceToNat] at ho11; rw [← Ny418.out] at ho11)); replace HO_5 := rb_ HO_5 hb; replace HO_6 := rb_ HO_6 hb; have HO420 := am (Kd.R_lower ho11 (bz_ HB.out)); replace BK411 := kb_ BK411 hb; replace HB := h9_ HB hb; clear hb ho11))
  go_loopg [8, 9] k1 (fun kq v8 v9 w' => ∃ (x8_2 : List Int) (x9_2 : Int), v9 = .int .i64 x9_2 ∧ Aside0 (spec_l18Grants.l1 kq a1 x5_1 x6_1 x7_1 x8_2 x9_2 a0_0 a0_1 l0_2 l0_3 l0_4 l0_5 l0_6 l0_7 l0_8 l0_9 a0_10 = some r) ∧ Aside0 (kq ≤ k1) ∧ Aside0 (Kd.R k107 107 w' w.heap.size (fun _ => True) u5 x5_1) ∧ Aside0 (Kd.R Kd.bool 4 w' w.heap.size (fun _ => True) v416 x6_1) ∧ Aside0 (Kd.R (Kd.int .i64) 3 w' w.heap.size (fun _ => True) v8 x8_2) ∧ Aside0 (w'.heap[gb411]? = some (.cells #[.int .i64 a0_0, .int .i64 a0_1, (.slice A0_2 l0_2.length c0_2), (.slice A0_3 l0_3.length c0_3), (.slice A0_4 l0_4.length c0_4), (.slice A0_5 l0_5.length c0_5), (.slice A0_6 l0_6.length c0_6), (.slice A0_7 l0_7.length c0_7), (.slice A0_8 l0_8.length c0_8), (.slice A0_9 l0_9.length c0_9), .int .i64 a0_10] 35 (0, 0))) ∧ Aside0 (Below w.heap.size w w'))
  case atStart => exact ⟨(y418), (0), ef_, H', ⟨Nat.le_refl _⟩, ⟨ra_ HO_5.out⟩, ⟨ra_ HO_6.out⟩, ⟨ra_ HO420.out⟩, ⟨bq_ BK411.out⟩, ⟨bb_ HB.out⟩⟩
  clear H'
  try clear c3
  try clear c3b0
  try clear c3b1
  try clear c9
  try clear c9b0
  obtain ⟨x8_2, x9_2, rfl, HA, HK2, HO_5, HO_6, HO_8, BK411, HB⟩ := hrel
  obtain _ | k2 := gk
  ·exact absurd HA.out (by simp [spec_l18Grants.l1])
  have H := HA.out
  clear HA
  simp only [spec_l18Grants.l1] at H
  by_cases c12 : x9_2 < 10
  ·rw [if_pos c12] at H
   have c12b0 : decide (x9_2 < 10) = true := decide_eq_true c12
   clear c12
   obtain ⟨ji13, hji13⟩ : ∃ j_ : Int, (wrap64 (Int.tdiv x9_2 2)) = j_ := ⟨_, rfl⟩
   replace H : (if 0 ≤ (ji13) then (if (ji13) < (x6_1.length : Int) then (if (rdOf false x6_1 (ji13) = true) then (spec_l18Grants.l1 k2 a1 x5_1 x6_1 x7_1 x8_2 (wrap64 (x9_2 + 1)) a0_0 a0_1 l0_2 l0_3 l0_4 l0_5 l0_6 l0_7 l0_8 l0_9 a0_10) else ((spec_l17Request.f k2 a0_0 a0_1 l0_2 l0_3 l0_4 l0_5 l0_6 l0_7 l0_8 l0_9 a0_10 a1 x9_2 x7_1).bind fun t422 => (if t422 = true then (if x8_2.length < 17592186044416 then (spec_l18Grants.l1 k2 a1 x5_1 x6_1 x7_1 (x8_2 ++ [x9_2]) (wrap64 (x9_2 + 1)) a0_0 a0_1 l0_2 l0_3 l0_4 l0_5 l0_6 l0_7 l0_8 l0_9 a0_10) else (none)) else (spec_l18Grants.l1 k2 a1 x5_1 x6_1 x7_1 x8_2 (wrap64 (x9_2 + 1)) a0_0 a0_1 l0_2 l0_3 l0_4 l0_5 l0_6 l0_7 l0_8 l0_9 a0_10)))) else (none)) else (none)) = some r := by first | (rw [hji13] at H; exact H) | (simp only [hji13] at H ⊢; exact H)
   have hji13w : (IntKind.i64.wrap (Int.tdiv x9_2 2)) = ji13 := (i64_w _).trans hji13
   by_cases c14 : 0 ≤ (ji13)
   rotate_left
   ·rw [if_neg c14] at H
    exact absurd H (by simp)
   rw [if_pos c14] at H
   have c14b0 : decide (0 ≤ (ji13)) = true := decide_eq_true c14
   clear c14
   by_cases c15 : (ji13) < (x6_1.length : Int)
   rotate_left
   ·rw [if_neg c15] at H
    exact absurd H (by simp)
   rw [if_pos c15] at H
   have c15b0 : decide ((ji13) < (x6_1.length : Int)) = true := decide_eq_true c15
   clear c15
   obtain ⟨bq16, hbq16⟩ : ∃ b_ : Bool, b_ = (rdOf false x6_1 (ji13)) := ⟨_, rfl⟩
   replace H : (if (bq16 = true) then (spec_l18Grants.l1 k2 a1 x5_1 x6_1 x7_1 x8_2 (wrap64 (x9_2 + 1)) a0_0 a0_1 l0_2 l0_3 l0_4 l0_5 l0_6 l0_7 l0_8 l0_9 a0_10) else ((spec_l17Request.f k2 a0_0 a0_1 l0_2 l0_3 l0_4 l0_5 l0_6 l0_7 l0_8 l0_9 a0_10 a1 x9_2 x7_1).bind fun t422 => (if t422 = true then (if x8_2.length < 17592186044416 then (spec_l18Grants.l1 k2 a1 x5_1 x6_1 x7_1 (x8_2 ++ [x9_2]) (wrap64 (x9_2 + 1)) a0_0 a0_1 l0_2 l0_3 l0_4 l0_5 l0_6 l0_7 l0_8 l0_9 a0_10) else (none)) else (spec_l18Grants.l1 k2 a1 x5_1 x6_1 x7_1 x8_2 (wrap64 (x9_2 + 1)) a0_0 a0_1 l0_2 l0_3 l0_4 l0_5 l0_6 l0_7 l0_8 l0_9 a0_10)))) = some r := by rw [← hbq16] at H; exact H
   have Nbq16 := am hbq16
   clear hbq16
   by_cases c17 : (bq16 = true)
   ·subst c17
    rw [if_pos rfl] at H
    have H' := am H
    clear H
    obtain ⟨Ao18, co18, eo18⟩ := Kd.R_slice HO_6.out
    subst eo18
    have p421 : 0 ≤ ((ji13) : Int) := of_decide_eq_true dg_
    have q421 : (ji13) < (x6_1.length : Int) := of_decide_eq_true dg_
    obtain ⟨ad421, e421, hx421_0⟩ := Kd.at_bool (Kd.R_reads' HO_6.out).2.2 (ji13) p421 q421
    (try rw [← Nbq16.out] at hx421_0)
    cases e421
    replace p421 := eq_true p421
    replace q421 := eq_true q421
    go_wp2
    go_roundg k2
    case measure => have := HK1.out; have := HK2.out; omega
    case rel => exact ⟨(x8_2), (wrap64 (x9_2 + 1)), ef_, H', ⟨by have := HK1.out; have := HK2.out; omega⟩, ⟨ra_ HO_5.out⟩, ⟨ra_ HO_6.out⟩, ⟨ra_ HO_8.out⟩, ⟨bq_ BK411.out⟩, ⟨bb_ HB.out⟩⟩
   replace c17 := Bool.eq_false_iff.mpr c17
   subst c17
   rw [if_neg (show ¬ (false = true) by decide)] at H
   obtain ⟨t422, A19, H⟩ := bi_ H
   by_cases c20 : t422 = true
   rotate_left
   ·replace c20 := Bool.eq_false_iff.mpr c20
    subst c20
    rw [if_neg (show ¬ (false = true) by decide)] at H
    have H' := am H
    clear H
    obtain ⟨Ao26, co26, eo26⟩ := Kd.R_slice HO_6.out
    subst eo26
    have p421 : 0 ≤ ((ji13) : Int) := of_decide_eq_true dg_
    have q421 : (ji13) < (x6_1.length : Int) := of_decide_eq_true dg_
    obtain ⟨ad421, e421, hx421_0⟩ := Kd.at_bool (Kd.R_reads' HO_6.out).2.2 (ji13) p421 q421
    (try rw [← Nbq16.out] at hx421_0)
    cases e421
    replace p421 := eq_true p421
    replace q421 := eq_true q421
    obtain ⟨hcz27_0, hcz27_1, hcz27_2, hcz27_3, hcz27_4, hcz27_5, hcz27_6, hcz27_7, hcz27_8, hcz27_9, hcz27_10, hfz27_0, hfz27_1, hfz27_2, hfz27_3, hfz27_4, hfz27_5, hfz27_6, hfz27_7, hfz27_8, hfz27_9, hfz27_10⟩ := cz11_ BK411.out
    go_wp2_with (first | (go_at_call 21; (with_reducible refine (spec_l17Request.calls k2 a0_0 a0_1 _ _ l0_2 _ _ l0_3 _ _ l0_4 _ _ l0_5 _ _ l0_6 _ _ l0_7 _ _ l0_8 _ _ l0_9 a0_10 a1 x9_2 x7_1 false _ ?side1 HC0_2.out ?side3 HC0_3.out ?side5 HC0_4.out ?side7 HC0_5.out ?side9 HC0_6.out ?side11 HC0_7.out ?side13 HC0_8.out ?side15 HC0_9.out A19.out).mono ?_); (case side1 => exact cb_ HR0_2.out HB.out); (case side3 => exact cb_ HR0_3.out HB.out); (case side5 => exact cb_ HR0_4.out HB.out); (case side7 => exact cb_ HR0_5.out HB.out); (case side9 => exact cb_ HR0_6.out HB.out); (case side11 => exact cb_ HR0_7.out HB.out); (case side13 => exact cb_ HR0_8.out HB.out); (case side15 => exact cb_ HR0_9.out HB.out); rintro e w28 ⟨rfl, hb⟩; replace HO_5 := rb_ HO_5 hb; replace HO_6 := rb_ HO_6 hb; replace HO_8 := rb_ HO_8 hb; replace BK411 := kb_ BK411 hb; replace HB := h9_ HB hb; (try clear hb)))
    go_roundg k2
    case measure => have := HK1.out; have := HK2.out; omega
    case rel => exact ⟨(x8_2), (wrap64 (x9_2 + 1)), ef_, H', ⟨by have := HK1.out; have := HK2.out; omega⟩, ⟨ra_ HO_5.out⟩, ⟨ra_ HO_6.out⟩, ⟨ra_ HO_8.out⟩, ⟨bq_ BK411.out⟩, ⟨bb_ HB.out⟩⟩
   subst c20
   rw [if_pos rfl] at H
   by_cases c21 : x8_2.length < 17592186044416
   rotate_left
   ·rw [if_neg c21] at H
    exact absurd H (by simp)
   rw [if_pos c21] at H
   have LMc21 := am c21
   clear c21
   obtain ⟨y423, hy423⟩ : ∃ y_ : List Int, y_ = (x8_2 ++ [x9_2]) := ⟨_, rfl⟩
   replace H : (spec_l18Grants.l1 k2 a1 x5_1 x6_1 x7_1 y423 (wrap64 (x9_2 + 1)) a0_0 a0_1 l0_2 l0_3 l0_4 l0_5 l0_6 l0_7 l0_8 l0_9 a0_10) = some r := ry_ hy423 H
   have Ny423 := am hy423
   clear hy423
   have H' := am H
   clear H
   obtain ⟨Ao22, co22, eo22⟩ := Kd.R_slice HO_6.out
   subst eo22
   have p421 : 0 ≤ ((ji13) : Int) := of_decide_eq_true dg_
   have q421 : (ji13) < (x6_1.length : Int) := of_decide_eq_true dg_
   obtain ⟨ad421, e421, hx421_0⟩ := Kd.at_bool (Kd.R_reads' HO_6.out).2.2 (ji13) p421 q421
   (try rw [← Nbq16.out] at hx421_0)
   cases e421
   replace p421 := eq_true p421
   replace q421 := eq_true q421
   obtain ⟨hcz23_0, hcz23_1, hcz23_2, hcz23_3, hcz23_4, hcz23_5, hcz23_6, hcz23_7, hcz23_8, hcz23_9, hcz23_10, hfz23_0, hfz23_1, hfz23_2, hfz23_3, hfz23_4, hfz23_5, hfz23_6, hfz23_7, hfz23_8, hfz23_9, hfz23_10⟩ := cz11_ BK411.out
   go_wp2_with (first | (go_at_call 21; (with_reducible refine (spec_l17Request.calls k2 a0_0 a0_1 _ _ l0_2 _ _ l0_3 _ _ l0_4 _ _ l0_5 _ _ l0_6 _ _ l0_7 _ _ l0_8 _ _ l0_9 a0_10 a1 x9_2 x7_1 true _ ?side1 HC0_2.out ?side3 HC0_3.out ?side5 HC0_4.out ?side7 HC0_5.out ?side9 HC0_6.out ?side11 HC0_7.out ?side13 HC0_8.out ?side15 HC0_9.out A19.out).mono ?_); (case side1 => exact cb_ HR0_2.out HB.out); (case side3 => exact cb_ HR0_3.out HB.out); (case side5 => exact cb_ HR0_4.out HB.out); (case side7 => exact cb_ HR0_5.out HB.out); (case side9 => exact cb_ HR0_6.out HB.out); (case side11 => exact cb_ HR0_7.out HB.out); (case side13 => exact cb_ HR0_8.out HB.out); (case side15 => exact cb_ HR0_9.out HB.out); rintro e w24 ⟨rfl, hb⟩; replace HO_5 := rb_ HO_5 hb; replace HO_6 := rb_ HO_6 hb; replace HO_8 := rb_ HO_8 hb; replace BK411 := kb_ BK411 hb; replace HB := h9_ HB hb; (try clear hb)) | ((with_reducible refine gate_builtin (b := .append) (xs := #[.tmp 35, .tmp 37]) rfl ?_); at_builtin; refine Kd.R_append (Kd.int .i64) (w0 := w) w.heap.size rfl (.tmp 35) (.tmp 37) 26 3 (.int .i64 0) 8 rfl Try.underlying26 info3 rfl (by decide) (by omega) u8 x8_2 x9_2 [.int .i64 x9_2] (fun _ => True) (fun _ => False) rfl rfl ?aP (fun _ hk => hk.elim) ?aF ?aO ?aB ?aS ?aL ?_; (case aP => exact rfl); (case aB => exact (hb_ HB.out)); (case aF => exact (fun _ _ => trivial)); (case aO => exact (ra_ HO_8.out)); (case aS => exact (bz_ HB.out)); (case aL => have := LMc21.out; omega); intro v424 w25 ho hb hg hat; rw [← Ny423.out] at ho; have n0_ := am (Kd.R_over' (ra_ HO_5.out) (Kd.R_typed (ra_ HO_8.out)) (by decide) hg); have n1_ := am (Kd.R_over' (ra_ HO_6.out) (Kd.R_typed (ra_ HO_8.out)) (by decide) hg); have n2_ := am (blk_grown (g := gb411) (o := .cells #[.int .i64 a0_0, .int .i64 a0_1, .slice A0_2 l0_2.length c0_2, .slice A0_3 l0_3.length c0_3, .slice A0_4 l0_4.length c0_4, .slice A0_5 l0_5.length c0_5, .slice A0_6 l0_6.length c0_6, .slice A0_7 l0_7.length c0_7, .slice A0_8 l0_8.length c0_8, .slice A0_9 l0_9.length c0_9, .int .i64 a0_10] 35 (0, 0)) (bq_ BK411.out) hg (Kd.R_ne HO_8.out BK411.out (by decide))); have n3_ := am (hb); have n4_ := am (ho); clear HO_5; clear HO_6; clear BK411; clear HB; clear HO_8; have HO_5 := n0_; have HO_6 := n1_; have BK411 := n2_; have HB := n3_; have HO425 := n4_; clear n0_ n1_ n2_ n3_ n4_; clear ho hb hg hat))
   go_roundg k2
   case measure => have := HK1.out; have := HK2.out; omega
   case rel => exact ⟨(y423), (wrap64 (x9_2 + 1)), ef_, H', ⟨by have := HK1.out; have := HK2.out; omega⟩, ⟨ra_ HO_5.out⟩, ⟨ra_ HO_6.out⟩, ⟨ra_ HO425.out⟩, ⟨bq_ BK411.out⟩, ⟨bb_ HB.out⟩⟩
  rw [if_neg c12] at H
  have c12b0 : decide (x9_2 < 10) = false := decide_eq_false c12
  clear c12
  obtain ⟨ji29, hji29⟩ : ∃ j_ : Int, (wrap64 ((wrap64 (5 * a1)) + x7_1)) = j_ := ⟨_, rfl⟩
  replace H : (if 0 ≤ (ji29) then (if (ji29) < (l0_7.length : Int) then ((spec_FirstFrom.f k2 x8_2 (rd l0_7 (ji29))).bind fun t427 => (if t427 ≥ 0 then (if 0 ≤ (wrap64 (Int.tdiv t427 2)) then (if (wrap64 (Int.tdiv t427 2)) < (x6_1.length : Int) then (if x5_1.length < 5864062014805 then (spec_l18Grants.l0 k2 a1 (x5_1 ++ [(⟨a1, x7_1, t427⟩ : S107)]) (x6_1.set ((wrap64 (Int.tdiv t427 2)) : Int).toNat true) (wrap64 (x7_1 + 1)) a0_0 a0_1 l0_2 l0_3 l0_4 l0_5 l0_6 l0_7 l0_8 l0_9 a0_10) else (none)) else (none)) else (none)) else (spec_l18Grants.l0 k2 a1 x5_1 x6_1 (wrap64 (x7_1 + 1)) a0_0 a0_1 l0_2 l0_3 l0_4 l0_5 l0_6 l0_7 l0_8 l0_9 a0_10))) else (none)) else (none)) = some r := by first | (rw [hji29] at H; exact H) | (simp only [hji29] at H ⊢; exact H)
  have hji29w : (IntKind.i64.wrap ((wrap64 (5 * a1)) + x7_1)) = ji29 := (i64_w _).trans hji29
  by_cases c30 : 0 ≤ (ji29)
  rotate_left
  ·rw [if_neg c30] at H
   exact absurd H (by simp)
  rw [if_pos c30] at H
  have c30b0 : decide (0 ≤ (ji29)) = true := decide_eq_true c30
  clear c30
  by_cases c31 : (ji29) < (l0_7.length : Int)
  rotate_left
  ·rw [if_neg c31] at H
   exact absurd H (by simp)
  rw [if_pos c31] at H
  have c31b0 : decide ((ji29) < (l0_7.length : Int)) = true := decide_eq_true c31
  clear c31
  obtain ⟨t427, A32, H⟩ := bi_ H
  by_cases c33 : t427 ≥ 0
  rotate_left
  ·rw [if_neg c33] at H
   have c33b0 : decide (0 ≤ t427) = false := decide_eq_false c33
   clear c33
   have H' := am H
   clear H
   obtain ⟨hcz44_0, hcz44_1, hcz44_2, hcz44_3, hcz44_4, hcz44_5, hcz44_6, hcz44_7, hcz44_8, hcz44_9, hcz44_10, hfz44_0, hfz44_1, hfz44_2, hfz44_3, hfz44_4, hfz44_5, hfz44_6, hfz44_7, hfz44_8, hfz44_9, hfz44_10⟩ := cz11_ BK411.out
   have p426 : 0 ≤ ((ji29) : Int) := of_decide_eq_true dg_
   have q426 : (ji29) < (l0_7.length : Int) := of_decide_eq_true dg_
   obtain ⟨ad426, e426, hx426_0⟩ := Kd.at_int HR0_7.out (ji29) p426 q426
   cases e426
   replace hx426_0 := hc_ HB hx426_0
   replace p426 := eq_true p426
   replace q426 := eq_true q426
   obtain ⟨Ao45, co45, eo45⟩ := Kd.R_slice HO_8.out
   subst eo45
   go_wp2_with (first | ((with_reducible refine gate_callee (f := 102) rfl ?_); refine goesL_ (some 48) rfl rfl Try.func102 (by kernel_rfl) rfl #[.slice Ao45 x8_2.length co45, .int .i64 (rd l0_7 (ji29))] rfl (by (try simp only [List.map_toArray, List.map_cons, List.map_nil]); first | done | (simp only [hji29]; rfl) | rfl | (simp only [List.length_drop, List.length_take]; rfl)) ?_; (with_reducible refine (spec_FirstFrom.calls k2 _ _ x8_2 (rd l0_7 (ji29)) t427 _ ?side1 ?side2 A32.out).mono ?_); (case side1 => exact rr_ HO_8); (case side2 => exact (Kd.R_reads' HO_8.out).2.1); rintro e w' ⟨rfl, ⟨nd, rfl⟩⟩; refine ⟨_, rfl, ?_⟩))
   go_roundg k2
   case measure => have := HK1.out; have := HK2.out; omega
   case rel => exact ⟨(x5_1), (x6_1), (wrap64 (x7_1 + 1)), ef_, H', ⟨by have := HK1.out; have := HK2.out; omega⟩, ⟨ra_ HO_5.out⟩, ⟨ra_ HO_6.out⟩, ⟨bq_ BK411.out⟩, ⟨bb_ HB.out⟩⟩
  rw [if_pos c33] at H
  have c33b0 : decide (0 ≤ t427) = true := decide_eq_true c33
  clear c33
  obtain ⟨ji34, hji34⟩ : ∃ j_ : Int, (wrap64 (Int.tdiv t427 2)) = j_ := ⟨_, rfl⟩
  replace H : (if 0 ≤ (ji34) then (if (ji34) < (x6_1.length : Int) then (if x5_1.length < 5864062014805 then (spec_l18Grants.l0 k2 a1 (x5_1 ++ [(⟨a1, x7_1, t427⟩ : S107)]) (x6_1.set ((ji34) : Int).toNat true) (wrap64 (x7_1 + 1)) a0_0 a0_1 l0_2 l0_3 l0_4 l0_5 l0_6 l0_7 l0_8 l0_9 a0_10) else (none)) else (none)) else (none)) = some r := by first | (rw [hji34] at H; exact H) | (simp only [hji34] at H ⊢; exact H)
  (try rw [hji34] at A32)
  have hji34w : (IntKind.i64.wrap (Int.tdiv t427 2)) = ji34 := (i64_w _).trans hji34
  by_cases c35 : 0 ≤ (ji34)
  rotate_left
  ·rw [if_neg c35] at H
   exact absurd H (by simp)
  rw [if_pos c35] at H
  have c35b0 : decide (0 ≤ (ji34)) = true := decide_eq_true c35
  clear c35
  by_cases c36 : (ji34) < (x6_1.length : Int)
  rotate_left
  ·rw [if_neg c36] at H
   exact absurd H (by simp)
  rw [if_pos c36] at H
  have c36b0 : decide ((ji34) < (x6_1.length : Int)) = true := decide_eq_true c36
  clear c36
  obtain ⟨y428, hy428⟩ : ∃ y_ : List Bool, y_ = (x6_1.set ((ji34) : Int).toNat true) := ⟨_, rfl⟩
  replace H : (if x5_1.length < 5864062014805 then (spec_l18Grants.l0 k2 a1 (x5_1 ++ [(⟨a1, x7_1, t427⟩ : S107)]) y428 (wrap64 (x7_1 + 1)) a0_0 a0_1 l0_2 l0_3 l0_4 l0_5 l0_6 l0_7 l0_8 l0_9 a0_10) else (none)) = some r := ry_ hy428 H
  have Ny428 := am hy428
  clear hy428
  by_cases c38 : x5_1.length < 5864062014805
  rotate_left
  ·rw [if_neg c38] at H
   exact absurd H (by simp)
  rw [if_pos c38] at H
  have LMc38 := am c38
  clear c38
  obtain ⟨y429, hy429⟩ : ∃ y_ : List (S107), y_ = (x5_1 ++ [(⟨a1, x7_1, t427⟩ : S107)]) := ⟨_, rfl⟩
  replace H : (spec_l18Grants.l0 k2 a1 y429 y428 (wrap64 (x7_1 + 1)) a0_0 a0_1 l0_2 l0_3 l0_4 l0_5 l0_6 l0_7 l0_8 l0_9 a0_10) = some r := ry_ hy429 H
  have Ny429 := am hy429
  clear hy429
  have H' := am H
  clear H
  obtain ⟨hcz39_0, hcz39_1, hcz39_2, hcz39_3, hcz39_4, hcz39_5, hcz39_6, hcz39_7, hcz39_8, hcz39_9, hcz39_10, hfz39_0, hfz39_1, hfz39_2, hfz39_3, hfz39_4, hfz39_5, hfz39_6, hfz39_7, hfz39_8, hfz39_9, hfz39_10⟩ := cz11_ BK411.out
  have p426 : 0 ≤ ((ji29) : Int) := of_decide_eq_true dg_
  have q426 : (ji29) < (l0_7.length : Int) := of_decide_eq_true dg_
  obtain ⟨ad426, e426, hx426_0⟩ := Kd.at_int HR0_7.out (ji29) p426 q426
  cases e426
  replace hx426_0 := hc_ HB hx426_0
  replace p426 := eq_true p426
  replace q426 := eq_true q426
  obtain ⟨Ao40, co40, eo40⟩ := Kd.R_slice HO_8.out
  subst eo40
  go_wp2_with (first | ((with_reducible refine gate_callee (f := 102) rfl ?_); refine goesL_ (some 48) rfl rfl Try.func102 (by kernel_rfl) rfl #[.slice Ao40 x8_2.length co40, .int .i64 (rd l0_7 (ji29))] rfl (by (try simp only [List.map_toArray, List.map_cons, List.map_nil]); first | done | (simp only [hji29]; rfl) | rfl | (simp only [List.length_drop, List.length_take]; rfl)) ?_; (with_reducible refine (spec_FirstFrom.calls k2 _ _ x8_2 (rd l0_7 (ji29)) t427 _ ?side1 ?side2 A32.out).mono ?_); (case side1 => exact rr_ HO_8); (case side2 => exact (Kd.R_reads' HO_8.out).2.1); rintro e w' ⟨rfl, ⟨nd, rfl⟩⟩; refine ⟨_, rfl, ?_⟩; (try (rw [drewN_self wr]; generalize hq_ : World.drewN wr _ = wr; have n0_ : Aside0 (Kd.R k107 107 wr w.heap.size (fun _ => True) u5 x5_1) := ⟨by rw [← hq_]; exact (ra_ HO_5.out)⟩; have n1_ : Aside0 (Kd.R Kd.bool 4 wr w.heap.size (fun _ => True) v416 x6_1) := ⟨by rw [← hq_]; exact (ra_ HO_6.out)⟩; have n2_ : Aside0 (Kd.R (Kd.int .i64) 3 wr w.heap.size (fun _ => True) (.slice Ao40 x8_2.length co40) x8_2) := ⟨by rw [← hq_]; exact (ra_ HO_8.out)⟩; have n3_ : Aside0 (wr.heap[gb411]? = some (.cells #[.int .i64 a0_0, .int .i64 a0_1, .slice A0_2 l0_2.length c0_2, .slice A0_3 l0_3.length c0_3, .slice A0_4 l0_4.length c0_4, .slice A0_5 l0_5.length c0_5, .slice A0_6 l0_6.length c0_6, .slice (some ad426) l0_7.length c0_7, .slice A0_8 l0_8.length c0_8, .slice A0_9 l0_9.length c0_9, .int .i64 a0_10] 35 (0, 0))) := ⟨by rw [← hq_]; exact (bq_ BK411.out)⟩; have n4_ : Aside0 (Below w.heap.size w wr) := ⟨by rw [← hq_]; exact (hb_ HB.out)⟩; clear HO_5 HO_6 HO_8 BK411 HB hq_; have HO_5 := n0_; have HO_6 := n1_; have HO_8 := n2_; have BK411 := n3_; have HB := n4_; clear n0_ n1_ n2_ n3_ n4_)); have p37 : 0 ≤ ((ji34) : Int) := of_decide_eq_true dg_; have q37 : ((ji34) : Int) < ((x6_1.length : Int) : Int) := of_decide_eq_true dg_; obtain ⟨go37, co37, eo37, gb37, gl37, cl37, HG37⟩ := Kd.R_form HO_6.out (by omega); (first | cases eo37 | (injection eo37 with ea_ en_ ec_; (first | subst ea_ | (injection ea_ with ea_; subst ea_)); subst ec_; clear en_)); have GB37 := am gb37; have GG37 := am HG37; clear gb37 gl37 HG37; obtain ⟨hx37_0, hf37_0⟩ := Kd.R_celln false HO_6.out ((ji34) : Int) p37 q37; replace p37 := eq_true p37; replace q37 := eq_true q37; obtain ⟨hy41_, hz41_⟩ := Kd.R_celln false HO_6.out ((ji34) : Int) (of_decide_eq_true dg_) (of_decide_eq_true dg_); have HP41 := Kd.R_putg HO_6.out ((ji34) : Int) true) | ((with_reducible refine gate_store (t := 4) (p := 54) rfl ?_); refine store_event (t := 4) (p := 54) (v := ?vo_w42) (w1 := (wr.setCell ⟨go37, ((ji34) : Int).toNat, none⟩ (.bool true))) ?hg ?ho ?hn ?hr ?_; (case ho => rfl); (case hg => rfl); (case hn => rfl); (case hr => first | (go_simp; done) | (go_simp; rfl)); intro w42 hw; have hg : wr.grownBy w42 (some go37) := (by rw [hw]; exact HP41.2); have hp_ : Kd.R Kd.bool 4 w42 w.heap.size (fun _ => True) (.slice (some ⟨go37, 0, none⟩) x6_1.length co37) y428 := (by rw [hw, Ny428.out]; exact HP41.1); clear HP41; replace HO_5 := am (Kd.R_over' (v := (.slice (some ⟨go37, 0, none⟩) x6_1.length co37)) (ra_ HO_5.out) (Kd.R_typed HO_6.out) (by decide) hg); replace HO_8 := am (Kd.R_over' (v := (.slice (some ⟨go37, 0, none⟩) x6_1.length co37)) (ra_ HO_8.out) (Kd.R_typed HO_6.out) (by decide) hg); replace BK411 := am (blk_grown (g := gb411) (o := .cells #[.int .i64 a0_0, .int .i64 a0_1, .slice A0_2 l0_2.length c0_2, .slice A0_3 l0_3.length c0_3, .slice A0_4 l0_4.length c0_4, .slice A0_5 l0_5.length c0_5, .slice A0_6 l0_6.length c0_6, .slice (some ad426) l0_7.length c0_7, .slice A0_8 l0_8.length c0_8, .slice A0_9 l0_9.length c0_9, .int .i64 a0_10] 35 (0, 0)) (bq_ BK411.out) hg (Kd.R_ne HO_6.out BK411.out (by decide))); replace HO_6 := am (hp_); replace HB := am ((by rw [hw]; exact below_set (HB.out) GB37.out : Below w.heap.size w w42)); clear hg hw hp_) | ((with_reducible refine gate_builtin (b := .append) (xs := #[.tmp 55, .tmp 60]) rfl ?_); at_builtin; refine Kd.R_append k107 (w0 := w) w.heap.size rfl (.tmp 55) (.tmp 60) 104 107 (.agg #[(.int .i64 0), (.int .i64 0), (.int .i64 0)]) 24 rfl Try.underlying104 info107 rfl (by decide) (by omega) u5 x5_1 (⟨a1, x7_1, t427⟩ : S107) [.int .i64 a1, .int .i64 x7_1, .int .i64 t427] (fun _ => True) (fun _ => False) rfl rfl ?aP (fun _ hk => hk.elim) ?aF ?aO ?aB ?aS ?aL ?_; (case aP => exact k107_mkM _ _ _ (⟨a1, x7_1, t427⟩ : S107)); (case aB => exact (hb_ HB.out)); (case aF => exact (fun _ _ => trivial)); (case aO => exact (ra_ HO_5.out)); (case aS => exact (bz_ HB.out)); (case aL => have := LMc38.out; omega); intro v430 w43 ho hb hg hat; rw [← Ny429.out] at ho; have n0_ := am (Kd.R_over' (ra_ HO_6.out) (Kd.R_typed (ra_ HO_5.out)) (by decide) hg); have n1_ := am (Kd.R_over' (ra_ HO_8.out) (Kd.R_typed (ra_ HO_5.out)) (by decide) hg); have n2_ := am (blk_grown (g := gb411) (o := .cells #[.int .i64 a0_0, .int .i64 a0_1, .slice A0_2 l0_2.length c0_2, .slice A0_3 l0_3.length c0_3, .slice A0_4 l0_4.length c0_4, .slice A0_5 l0_5.length c0_5, .slice A0_6 l0_6.length c0_6, .slice (some ad426) l0_7.length c0_7, .slice A0_8 l0_8.length c0_8, .slice A0_9 l0_9.length c0_9, .int .i64 a0_10] 35 (0, 0)) (bq_ BK411.out) hg (Kd.R_ne HO_5.out BK411.out (by decide))); have n3_ := am (hb); have n4_ := am (ho); clear HO_6; clear HO_8; clear BK411; clear HB; clear HO_5; have HO_6 := n0_; have HO_8 := n1_; have BK411 := n2_; have HB := n3_; have HO431 := n4_; clear n0_ n1_ n2_ n3_ n4_; clear ho hb hg hat))
  go_roundg k2
  case measure => have := HK1.out; have := HK2.out; omega
  case rel => exact ⟨(y429), (y428), (wrap64 (x7_1 + 1)), ef_, H', ⟨by have := HK1.out; have := HK2.out; omega⟩, ⟨ra_ HO431.out⟩, ⟨ra_ HO_6.out⟩, ⟨bq_ BK411.out⟩, ⟨bb_ HB.out⟩⟩
 ·rw [if_neg c3] at H
  exact absurd H (by simp)
end Go.Proofs.Yteiemoooelpdaaa.PFnCreditSum
-- thin
