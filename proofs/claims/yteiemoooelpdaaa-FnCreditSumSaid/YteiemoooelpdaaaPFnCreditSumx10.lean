
import Derived.Test.YteiemoooelpdaaaPFnCreditSumx0
import Derived.Test.YteiemoooelpdaaaPFnCreditSumx1
import Derived.Test.YteiemoooelpdaaaPFnCreditSumx4
import Derived.Test.YteiemoooelpdaaaPFnCreditSumx7
namespace Go.Proofs.Yteiemoooelpdaaa.PFnCreditSum
open Go.RowKit Go.Proofs.YteiemoooelpdaaaW.PrintWords Go.Proofs.YteiemoooelpdaaaW.PrintLast Go.Proofs.YteiemoooelpdaaaW.PrintMore
attribute [local go_sem] max2_int min2_int max_two min_two max_three min_three max_four min_four
set_option linter.unusedVariables false
set_option maxHeartbeats 8000000
set_option maxRecDepth 100000
set_option linter.unusedSimpArgs false
def spec_l15Flits.l0 : Nat → List (S72) → Int → Int → Int → Option (Bool)
 | 0, _, _, _, _ => none
 | k + 1, x1, x5, x313000, x313001 => if x5 < (x1.length : Int) then (if 0 ≤ x5 then ((spec_l02Has.f x313000 x313001 ((rd_T72 x1 x5).f1)).bind fun t314 => (if t314 = true then ((spec_l01In.f ((rd_T72 x1 x5).f2) 0 1).bind fun t316 => (if t316 = true then (spec_l15Flits.l0 k x1 (wrap64 (x5 + 1)) x313000 x313001) else (none))) else (none))) else (none)) else (some true)
def spec_l15Flits.f (k : Nat) (a0_0 : Int) (a0_1 : Int) (l1 : List (S72)) : Option (Bool) := spec_l15Flits.l0 k l1 0 a0_0 a0_1
def spec_l15Flits.T4 : Bool × List (List Nat × List Nat) := (true, [([], []), ([], []), ([], []), ([1, 2], [1, 2]), ([3], [3]), ([4], [4]), ([0, 5], [0, 5]), ([6], [6]), ([7, 6], [7]), ([8], [8]), ([8], [8]), ([9, 10, 8], [8, 9, 10]), ([11, 8], [8, 11]), ([12, 8], [8, 12]), ([13, 8, 8], [8, 13]), ([14, 8], [8, 14]), ([8, 15], [8, 15])])
def spec_l15Flits.B4 : List Nat := [0, 0, 0, 6, 14, 30, 63, 127, 255, 511, 511, 2047, 4095, 8191, 16383, 32767, 65535]
theorem spec_l15Flits.tab4 : rtab .any (opsOf Try.f68 4) = spec_l15Flits.T4 := by kernel_rfl
theorem spec_l15Flits.bits4 : waitsOk spec_l15Flits.T4.2 spec_l15Flits.B4 = true := by kernel_rfl
theorem spec_l15Flits.calls (k : Nat) (a0_0 : Int) (a0_1 : Int) (A1 : Option Addr) (c1 : Nat) (l1 : List (S72)) (r : Bool) (w : World) (hr1 : Kd.C k72 w A1 l1.length l1) (hc1 : l1.length ≤ c1) (h : spec_l15Flits.f k a0_0 a0_1 l1 = some r) :
  Calls Try.prog 68 #[.agg #[.int .i64 a0_0, .int .i64 a0_1], .slice A1 l1.length c1] w fun e w' => e = .returned (.bool r) ∧ Below w.heap.size w w' := by
 have hu25 := Try.underlying25
 have HR1 := am hr1
 have HC1 := am hc1
 clear hr1 hc1
 have HB := am (Below.refl w.heap.size w)
 have H : (spec_l15Flits.l0 k l1 0 a0_0 a0_1) = some r := h
 clear h
 have H' := am H
 clear H
 go_enter Try.func68, Try.ntmps68
 go_wp2_with (first | ((with_reducible refine gate_dst (N := 2) rfl ?_); refine bx_ 2 #[.int .i64 a0_0, .int .i64 a0_1] 25 ?_; intro gb312 hg w3 hbox hb; have BK312 := am (hbox); have GW312 := gw_ hg HB; replace HB := h9_ HB hb; clear hb hbox hg))
 go_loopg [5] k (fun kq v5 w' => ∃ (x5_1 : Int), v5 = .int .i64 x5_1 ∧ Aside0 (spec_l15Flits.l0 kq l1 x5_1 a0_0 a0_1 = some r) ∧ Aside0 (kq ≤ k) ∧ Aside0 (w'.heap[gb312]? = some (.cells #[.int .i64 a0_0, .int .i64 a0_1] 25 (0, 0))) ∧ Aside0 (Below w.heap.size w w'))
 case atStart => exact ⟨(0), ef_, H', ⟨Nat.le_refl _⟩, ⟨bq_ BK312.out⟩, ⟨bb_ HB.out⟩⟩
 clear H'
 obtain ⟨x5_1, rfl, HA, HK1, BK312, HB⟩ := hrel
 obtain _ | k1 := gk
 ·exact absurd HA.out (by simp [spec_l15Flits.l0])
 have H := HA.out
 clear HA
 simp only [spec_l15Flits.l0] at H
 by_cases c4 : x5_1 < (l1.length : Int)
 rotate_left
 ·rw [if_neg c4] at H
  have c4b0 : decide (x5_1 < (l1.length : Int)) = false := decide_eq_false c4
  clear c4
  obtain rfl := Option.some.inj H
  go_wp2
  go_ret
  exact ⟨fin_, bb_ HB.out⟩
 rw [if_pos c4] at H
 have c4b0 : decide (x5_1 < (l1.length : Int)) = true := decide_eq_true c4
 clear c4
 by_cases c5 : 0 ≤ x5_1
 rotate_left
 ·rw [if_neg c5] at H
  exact absurd H (by simp)
 rw [if_pos c5] at H
 have c5b0 : decide (0 ≤ x5_1) = true := decide_eq_true c5
 clear c5
 obtain ⟨t314, A6, H⟩ := bi_ H
 by_cases c7 : t314 = true
 rotate_left
 ·replace c7 := Bool.eq_false_iff.mpr c7
  subst c7
  rw [if_neg (show ¬ (false = true) by decide)] at H
  exact absurd H (by simp)
 subst c7
 rw [if_pos rfl] at H
 obtain ⟨t316, A8, H⟩ := bi_ H
 by_cases c9 : t316 = true
 rotate_left
 ·replace c9 := Bool.eq_false_iff.mpr c9
  subst c9
  rw [if_neg (show ¬ (false = true) by decide)] at H
  exact absurd H (by simp)
 subst c9
 rw [if_pos rfl] at H
 have H' := am H
 clear H
 try go_wp2
 replace BK312 := am (blk_drew BK312.out)
 replace HB := am (below_drew1 HB.out)
 have p313 : 0 ≤ (x5_1 : Int) := of_decide_eq_true dg_
 have q313 : x5_1 < (l1.length : Int) := of_decide_eq_true dg_
 obtain ⟨ad313, e313, hx313_0, hx313_1, hx313_2, hx313_3, hx313_4⟩ := at_T72 HR1.out x5_1 p313 q313
 have hw313_4 := hx313_4
 have hw313_3 := hx313_3
 have hw313_2 := hx313_2
 have hw313_1 := hx313_1
 have hw313_0 := hx313_0
 cases e313
 replace hx313_0 := hc_ HB hx313_0
 replace hx313_1 := hc_ HB hx313_1
 replace hx313_2 := hc_ HB hx313_2
 replace hx313_3 := hc_ HB hx313_3
 replace hx313_4 := hc_ HB hx313_4
 replace p313 := eq_true p313
 replace q313 := eq_true q313
 have p315 : 0 ≤ (x5_1 : Int) := of_decide_eq_true dg_
 have q315 : x5_1 < (l1.length : Int) := of_decide_eq_true dg_
 obtain ⟨ad315, e315, hx315_0, hx315_1, hx315_2, hx315_3, hx315_4⟩ := at_T72 HR1.out x5_1 p315 q315
 have hw315_4 := hx315_4
 have hw315_3 := hx315_3
 have hw315_2 := hx315_2
 have hw315_1 := hx315_1
 have hw315_0 := hx315_0
 obtain rfl : ad313 = ad315 := (by injection e315)
 replace hx315_0 := hc_ HB hx315_0
 replace hx315_1 := hc_ HB hx315_1
 replace hx315_2 := hc_ HB hx315_2
 replace hx315_3 := hc_ HB hx315_3
 replace hx315_4 := hc_ HB hx315_4
 replace p315 := eq_true p315
 replace q315 := eq_true q315
 refine start_ (n := 17) (S := fun w' => w'.cell? ⟨gb312, 0, none⟩ = some (.int .i64 a0_0) ∧ w'.cell? ⟨gb312, 1, none⟩ = some (.int .i64 a0_1) ∧ w'.cell? (ad313.add ((x5_1).toNat * 5)) = some (.int .i64 ((rd_T72 l1 x5_1).f0)) ∧ w'.cell? ⟨(ad313.add ((x5_1).toNat * 5)).block, (ad313.add ((x5_1).toNat * 5)).off + 1, none⟩ = some (.int .i64 ((rd_T72 l1 x5_1).f1)) ∧ w'.cell? ⟨(ad313.add ((x5_1).toNat * 5)).block, (ad313.add ((x5_1).toNat * 5)).off + 2, none⟩ = some (.int .i64 ((rd_T72 l1 x5_1).f2)) ∧ w'.cell? ⟨(ad313.add ((x5_1).toNat * 5)).block, (ad313.add ((x5_1).toNat * 5)).off + 3, none⟩ = some (.bool ((rd_T72 l1 x5_1).f3)) ∧ w'.cell? ⟨(ad313.add ((x5_1).toNat * 5)).block, (ad313.add ((x5_1).toNat * 5)).off + 4, none⟩ = some (.bool ((rd_T72 l1 x5_1).f4)) ∧ w'.cell? (ad313.add ((x5_1).toNat * 5)) = some (.int .i64 ((rd_T72 l1 x5_1).f0)) ∧ w'.cell? ⟨(ad313.add ((x5_1).toNat * 5)).block, (ad313.add ((x5_1).toNat * 5)).off + 1, none⟩ = some (.int .i64 ((rd_T72 l1 x5_1).f1)) ∧ w'.cell? ⟨(ad313.add ((x5_1).toNat * 5)).block, (ad313.add ((x5_1).toNat * 5)).off + 2, none⟩ = some (.int .i64 ((rd_T72 l1 x5_1).f2)) ∧ w'.cell? ⟨(ad313.add ((x5_1).toNat * 5)).block, (ad313.add ((x5_1).toNat * 5)).off + 3, none⟩ = some (.bool ((rd_T72 l1 x5_1).f3)) ∧ w'.cell? ⟨(ad313.add ((x5_1).toNat * 5)).block, (ad313.add ((x5_1).toNat * 5)).off + 4, none⟩ = some (.bool ((rd_T72 l1 x5_1).f4))) (ds := []) #[false, false, false, false, false, false, false, false, false, false, false, false, false, false, false, false, false] (by kernel_rfl) rfl rfl ⟨(blk_cell BK312.out 0).trans rfl, (blk_cell BK312.out 1).trans rfl, (hc_ HB hw313_0 :), (hc_ HB hw313_1 :), (hc_ HB hw313_2 :), (hc_ HB hw313_3 :), (hc_ HB hw313_4 :), (hc_ HB hw315_0 :), (hc_ HB hw315_1 :), (hc_ HB hw315_2 :), (hc_ HB hw315_3 :), (hc_ HB hw315_4 :)⟩ (fun hHeld => ?_); refine with_tabW spec_l15Flits.tab4 spec_l15Flits.bits4 (fun HT_ HW_ => ?_)
 generalize wr.drew = w10 at BK312 HB hx313_0 hx313_1 hx313_2 hx313_3 hx313_4 hx315_0 hx315_1 hx315_2 hx315_3 hx315_4 hHeld ⊢
 refine pu_ 1 13 (bt_ 17 2) HT_ ?_
 refine pu_ 2 14 (bt_ 17 6) HT_ ?_
 refine pu_ 3 15 (bt_ 17 14) HT_ ?_
 refine pu_ 4 16 (bt_ 17 30) HT_ ?_
 refine tw_ 0 12 (bt_ 17 31) HT_ HW_ hHeld ?_
 refine tw_ 5 17 (bt_ 17 63) HT_ HW_ hHeld ?_
 refine one_ (i := 6) (N := some 18) (bt_ 17 127) rfl rfl (one_of HT_.out (by kernel_rfl)) (by decide) (fun K hK => ?_)
 refine goes_ Try.func39 (by kernel_rfl) rfl #[.agg #[.int .i64 a0_0, .int .i64 a0_1], .int .i64 ((rd_T72 l1 x5_1).f1)] (by rfl) rfl rfl (by (try simp only [List.map_toArray, List.map_cons, List.map_nil]); first | done | rfl | (simp only [List.length_drop, List.length_take]; rfl)) ?_
 with_reducible refine (spec_l02Has.calls a0_0 a0_1 ((rd_T72 l1 x5_1).f1) true _ A6.out).mono ?_
 rintro e w11 ⟨rfl, hb⟩
 refine ⟨_, rfl, ?_⟩
 replace BK312 := kb_ BK312 hb
 replace HB := h9_ HB hb
 (try clear hb)
 refine hK.out _ _ ⟨(blk_cell BK312.out 0).trans rfl, (blk_cell BK312.out 1).trans rfl, (hc_ HB hw313_0 :), (hc_ HB hw313_1 :), (hc_ HB hw313_2 :), (hc_ HB hw313_3 :), (hc_ HB hw313_4 :), (hc_ HB hw315_0 :), (hc_ HB hw315_1 :), (hc_ HB hw315_2 :), (hc_ HB hw315_3 :), (hc_ HB hw315_4 :)⟩ (fun hHeld => ?_)
 clear hK K
 refine nm_ 18 ?_
 refine pu_ 7 19 (bt_ 17 255) HT_ ?_
 refine pu_ 8 20 (bt_ 17 511) HT_ ?_
 refine pu_ 9 21 (bt_ 17 1023) HT_ ?_
 refine pu_ 10 22 (bt_ 17 2047) HT_ ?_
 refine pu_ 11 23 (bt_ 17 4095) HT_ ?_
 refine pu_ 12 24 (bt_ 17 8191) HT_ ?_
 refine tw_ 13 25 (bt_ 17 16383) HT_ HW_ hHeld ?_
 refine one_ (i := 14) (N := some 26) (bt_ 17 32767) rfl rfl (one_of HT_.out (by kernel_rfl)) (by decide) (fun K hK => ?_)
 refine goes_ Try.func40 (by kernel_rfl) rfl #[.int .i64 ((rd_T72 l1 x5_1).f2), .int .i64 0, .int .i64 1] (by rfl) rfl rfl (by (try simp only [List.map_toArray, List.map_cons, List.map_nil]); first | done | rfl | (simp only [List.length_drop, List.length_take]; rfl)) ?_
 with_reducible refine (spec_l01In.calls ((rd_T72 l1 x5_1).f2) 0 1 true _ A8.out).mono ?_
 rintro e w' ⟨rfl, ⟨nd, rfl⟩⟩
 refine ⟨_, rfl, ?_⟩
 refine hK.out _ _ ⟨(blk_cell BK312.out 0).trans rfl, (blk_cell BK312.out 1).trans rfl, (hc_ HB hw313_0 :), (hc_ HB hw313_1 :), (hc_ HB hw313_2 :), (hc_ HB hw313_3 :), (hc_ HB hw313_4 :), (hc_ HB hw315_0 :), (hc_ HB hw315_1 :), (hc_ HB hw315_2 :), (hc_ HB hw315_3 :), (hc_ HB hw315_4 :)⟩ (fun hHeld => ?_)
 clear hK K
 refine nm_ 26 ?_
 refine pu_ 15 27 (bt_ 17 65535) HT_ ?_
 refine pu_ 16 28 (bt_ 17 131071) HT_ ?_
 refine done_ (done_of HT_.out (by kernel_rfl)) ?_
 try go_wp2
 go_roundg k1
 case measure => have := HK1.out; omega
 case rel => exact ⟨(wrap64 (x5_1 + 1)), ef_, H', ⟨by have := HK1.out; omega⟩, ⟨bq_ BK312.out⟩, ⟨bb_ HB.out⟩⟩
def spec_NetOk.l1 (b : List S72) (c : Int) : Nat → Int → Option Bool
 | 0, _ => none
 | k + 1, j => if j < (b.length : Int) then (if 0 ≤ j ∧ (rd_T72 b j).f2 = c then spec_NetOk.l1 b c k (wrap64 (j + 1)) else none) else some true
def spec_NetOk.l0 (g0 g1 n : Int) (B : List (List S72)) (O : List Int) : Nat → Int → Option Bool
 | 0, _ => none
 | k + 1, i => if i < wrap64 (10 * n) then (if 0 ≤ i ∧ i < (B.length : Int) ∧ i < (O.length : Int) ∧ ¬ ((rd_L4 B i).length : Int) > 3 then (spec_l15Flits.f k g0 g1 (rd_L4 B i)).bind fun u => if u = true then (spec_l01In.f (rd O i) (-1) 4).bind fun v => if v = true then (spec_NetOk.l1 (rd_L4 B i) (Int.tmod i 2) k 0).bind fun _ => spec_NetOk.l0 g0 g1 n B O k (wrap64 (i + 1)) else none else none else none) else some true
def spec_NetOk.l2 (n : Int) (T : List Int) : Nat → Int → Option Bool
 | 0, _ => none
 | k + 1, i => if i < wrap64 (5 * n) then (if 0 ≤ i ∧ i < (T.length : Int) then (spec_l01In.f (rd T i) 0 9).bind fun v => if v = true then spec_NetOk.l2 n T k (wrap64 (i + 1)) else none else none) else some true
def spec_NetOk.l3 (g0 g1 n : Int) (C : List (List S72)) : Nat → Int → Option Bool
 | 0, _ => none
 | k + 1, i => if i < n then (if 0 ≤ i ∧ i < (C.length : Int) ∧ ¬ ((rd_L4 C i).length : Int) > 60 then (spec_l15Flits.f k g0 g1 (rd_L4 C i)).bind fun u => if u = true then spec_NetOk.l3 g0 g1 n C k (wrap64 (i + 1)) else none else none) else some true
def spec_NetOk.f (k : Nat) (a0_0 : Int) (a0_1 : Int) (l0_2 : List Int) (l0_3 : List Int) (l0_4 : List Int) (l0_5 : List (List S72)) (l0_6 : List Int) (l0_7 : List Int) (l0_8 : List (List S72)) (l0_9 : List (List S72)) (a0_10 : Int) : Option Bool := (spec_NodeCount.f a0_0 a0_1).bind fun n => (spec_ClassesOk.f k a0_0 a0_1 l0_2 l0_3 l0_4).bind fun b => if b = true ∧ (l0_5.length : Int) = wrap64 (10 * n) ∧ (l0_6.length : Int) = wrap64 (10 * n) ∧ (l0_7.length : Int) = wrap64 (5 * n) ∧ (l0_8.length : Int) = n ∧ (l0_9.length : Int) = n then (spec_l01In.f a0_10 0 1000000).bind fun v => if v = true then (spec_NetOk.l0 a0_0 a0_1 n l0_5 l0_6 k 0).bind fun _ => (spec_NetOk.l2 n l0_7 k 0).bind fun _ => spec_NetOk.l3 a0_0 a0_1 n l0_8 k 0 else none else none
set_option maxHeartbeats 4000000 in
theorem spec_NetOk.calls (k : Nat) (a0_0 : Int) (a0_1 : Int) (A0_2 : Option Addr) (c0_2 : Nat) (l0_2 : List Int) (A0_3 : Option Addr) (c0_3 : Nat) (l0_3 : List Int) (A0_4 : Option Addr) (c0_4 : Nat) (l0_4 : List Int) (A0_5 : Option Addr) (c0_5 : Nat) (l0_5 : List (List S72)) (A0_6 : Option Addr) (c0_6 : Nat) (l0_6 : List Int) (A0_7 : Option Addr) (c0_7 : Nat) (l0_7 : List Int) (A0_8 : Option Addr) (c0_8 : Nat) (l0_8 : List (List S72)) (A0_9 : Option Addr) (c0_9 : Nat) (l0_9 : List (List S72)) (a0_10 : Int) (r : Bool) (w : World) (hr0_2 : Kd.C (Kd.int .i64) w A0_2 l0_2.length l0_2) (hc0_2 : l0_2.length ≤ c0_2) (hr0_3 : Kd.C (Kd.int .i64) w A0_3 l0_3.length l0_3) (hc0_3 : l0_3.length ≤ c0_3) (hr0_4 : Kd.C (Kd.int .i64) w A0_4 l0_4.length l0_4) (hc0_4 : l0_4.length ≤ c0_4) (hr0_5 : Kd.C (Kd.slice 72 k72) w A0_5 l0_5.length l0_5) (hc0_5 : l0_5.length ≤ c0_5) (hr0_6 : Kd.C (Kd.int .i64) w A0_6 l0_6.length l0_6) (hc0_6 : l0_6.length ≤ c0_6) (hr0_7 : Kd.C (Kd.int .i64) w A0_7 l0_7.length l0_7) (hc0_7 : l0_7.length ≤ c0_7) (hr0_8 : Kd.C (Kd.slice 72 k72) w A0_8 l0_8.length l0_8) (hc0_8 : l0_8.length ≤ c0_8) (hr0_9 : Kd.C (Kd.slice 72 k72) w A0_9 l0_9.length l0_9) (hc0_9 : l0_9.length ≤ c0_9) (h : spec_NetOk.f k a0_0 a0_1 l0_2 l0_3 l0_4 l0_5 l0_6 l0_7 l0_8 l0_9 a0_10 = some r) :
  Calls Try.prog 38 #[.agg #[.int .i64 a0_0, .int .i64 a0_1, .slice A0_2 l0_2.length c0_2, .slice A0_3 l0_3.length c0_3, .slice A0_4 l0_4.length c0_4, .slice A0_5 l0_5.length c0_5, .slice A0_6 l0_6.length c0_6, .slice A0_7 l0_7.length c0_7, .slice A0_8 l0_8.length c0_8, .slice A0_9 l0_9.length c0_9, .int .i64 a0_10]] w fun e w' => e = .returned (.bool r) ∧ Below w.heap.size w w' := by
 have HR2 := am hr0_2; have HC2 := am hc0_2
 have HR3 := am hr0_3; have HC3 := am hc0_3
 have HR4 := am hr0_4; have HC4 := am hc0_4
 have HR5 := am hr0_5; have HC5 := am hc0_5
 have HR6 := am hr0_6; have HC6 := am hc0_6
 have HR7 := am hr0_7; have HC7 := am hc0_7
 have HR8 := am hr0_8; have HC8 := am hc0_8
 have HB := am (Below.refl w.heap.size w); clear hr0_2 hc0_2 hr0_3 hc0_3 hr0_4 hc0_4 hr0_5 hc0_5 hr0_6 hc0_6 hr0_7 hc0_7 hr0_8 hc0_8 hr0_9 hc0_9
 unfold spec_NetOk.f at h; obtain ⟨n, e_, h⟩ := Option.bind_eq_some_iff.1 h; have E1 := am e_; clear e_; obtain ⟨b, e_, h⟩ := Option.bind_eq_some_iff.1 h; have E2 := am e_; clear e_
 by_cases c1 : b = true ∧ (l0_5.length : Int) = wrap64 (10 * n) ∧ (l0_6.length : Int) = wrap64 (10 * n) ∧ (l0_7.length : Int) = wrap64 (5 * n) ∧ (l0_8.length : Int) = n ∧ (l0_9.length : Int) = n
 rotate_left
 ·rw [if_neg c1] at h; cases h
 rw [if_pos c1] at h
 obtain ⟨rfl, c5, c6, c7, c8, c9⟩ := c1; obtain ⟨v, e_, h⟩ := Option.bind_eq_some_iff.1 h; have E3 := am e_; clear e_
 by_cases c1 : v = true
 rotate_left
 ·rw [if_neg c1] at h; cases h
 rw [if_pos c1] at h
 subst c1; obtain ⟨v0, e_, h⟩ := Option.bind_eq_some_iff.1 h; have H0 := am e_; clear e_; obtain ⟨v2, e_, h⟩ := Option.bind_eq_some_iff.1 h; have H2 := am e_; clear e_; have H3 := am h; clear h
 replace c5 := bne_eq_false_iff_eq.mpr c5; replace c6 := bne_eq_false_iff_eq.mpr c6; replace c7 := bne_eq_false_iff_eq.mpr c7; replace c8 := bne_eq_false_iff_eq.mpr c8; replace c9 := bne_eq_false_iff_eq.mpr c9
 have hu35 := Try.underlying35; have hu28 := Try.underlying28; have hu32 := Try.underlying32; have hu25 := Try.underlying25; have hu72 := Try.underlying72
 go_enter Try.func38, Try.ntmps38; go_wp2_with (first | ((with_reducible refine gate_dst (N := 1) rfl ?_); refine bx_ 1 #[.int .i64 a0_0, .int .i64 a0_1, .slice A0_2 l0_2.length c0_2, .slice A0_3 l0_3.length c0_3, .slice A0_4 l0_4.length c0_4, .slice A0_5 l0_5.length c0_5, .slice A0_6 l0_6.length c0_6, .slice A0_7 l0_7.length c0_7, .slice A0_8 l0_8.length c0_8, .slice A0_9 l0_9.length c0_9, .int .i64 a0_10] 35 ?_; intro g1 hg w1 hbox hb; have B1 := am hbox; replace HB := h9_ HB hb; clear hb hbox hg; obtain ⟨z0, z1, z2, z3, z4, z5, z6, z7, z8, z9, z10, zf0, zf1, zf2, zf3, zf4, zf5, zf6, zf7, zf8, zf9, zf10⟩ := cz11_ B1.out) | (go_at_call 57; (with_reducible refine (spec_NodeCount.calls a0_0 a0_1 n _ E1.out).mono ?_); rintro e w2 ⟨rfl, hb⟩; replace B1 := kb_ B1 hb; replace HB := h9_ HB hb; clear hb; clear z0 z1 z2 z3 z4 z5 z6 z7 z8 z9 z10 zf0 zf1 zf2 zf3 zf4 zf5 zf6 zf7 zf8 zf9 zf10; obtain ⟨z0, z1, z2, z3, z4, z5, z6, z7, z8, z9, z10, zf0, zf1, zf2, zf3, zf4, zf5, zf6, zf7, zf8, zf9, zf10⟩ := cz11_ B1.out) | (go_at_call 59; (with_reducible refine (spec_ClassesOk.calls k a0_0 a0_1 _ _ l0_2 _ _ l0_3 _ _ l0_4 true _ (cb_ HR2.out HB.out) HC2.out (cb_ HR3.out HB.out) HC3.out (cb_ HR4.out HB.out) HC4.out E2.out).mono ?_); rintro e w3 ⟨rfl, hb⟩; replace B1 := kb_ B1 hb; replace HB := h9_ HB hb; clear hb; clear z0 z1 z2 z3 z4 z5 z6 z7 z8 z9 z10 zf0 zf1 zf2 zf3 zf4 zf5 zf6 zf7 zf8 zf9 zf10; obtain ⟨z0, z1, z2, z3, z4, z5, z6, z7, z8, z9, z10, zf0, zf1, zf2, zf3, zf4, zf5, zf6, zf7, zf8, zf9, zf10⟩ := cz11_ B1.out) | (go_at_call 40; (with_reducible refine (spec_l01In.calls a0_10 (0) 1000000 true _ E3.out).mono ?_); rintro e w4 ⟨rfl, hd⟩; have hb := hd.below; clear hd; replace B1 := kb_ B1 hb; replace HB := h9_ HB hb; clear hb; clear z0 z1 z2 z3 z4 z5 z6 z7 z8 z9 z10 zf0 zf1 zf2 zf3 zf4 zf5 zf6 zf7 zf8 zf9 zf10; obtain ⟨z0, z1, z2, z3, z4, z5, z6, z7, z8, z9, z10, zf0, zf1, zf2, zf3, zf4, zf5, zf6, zf7, zf8, zf9, zf10⟩ := cz11_ B1.out))
 clear E1 E2 E3 c5 c6 c7 c8 c9 z0 z1 z2 z3 z4 z5 z6 z7 z8 z9 z10 zf0 zf1 zf2 zf3 zf4 zf5 zf6 zf7 zf8 zf9 zf10
 go_loopg [4] k (fun kq v4 w' => ∃ i : Int, v4 = .int .i64 i ∧ Aside0 (spec_NetOk.l0 a0_0 a0_1 n l0_5 l0_6 kq i = some v0) ∧ Aside0 (kq ≤ k) ∧ Aside0 (w'.heap[g1]? = some (.cells #[.int .i64 a0_0, .int .i64 a0_1, .slice A0_2 l0_2.length c0_2, .slice A0_3 l0_3.length c0_3, .slice A0_4 l0_4.length c0_4, .slice A0_5 l0_5.length c0_5, .slice A0_6 l0_6.length c0_6, .slice A0_7 l0_7.length c0_7, .slice A0_8 l0_8.length c0_8, .slice A0_9 l0_9.length c0_9, .int .i64 a0_10] 35 (0, 0))) ∧ Aside0 (Below w.heap.size w w'))
 case atStart => exact ⟨0, rfl, H0, ⟨Nat.le_refl _⟩, ⟨bq_ B1.out⟩, ⟨bb_ HB.out⟩⟩
 clear H0 B1 HB; obtain ⟨i, rfl, HA, HKk1, B1, HB⟩ := hrel; cases gk with
 | zero => exact absurd HA.out (by simp [spec_NetOk.l0])
 | succ k1 =>
  have h := HA.out; clear HA; simp only [spec_NetOk.l0] at h; obtain ⟨z0, z1, z2, z3, z4, z5, z6, z7, z8, z9, z10, zf0, zf1, zf2, zf3, zf4, zf5, zf6, zf7, zf8, zf9, zf10⟩ := cz11_ B1.out
  by_cases c1 : i < wrap64 (10 * n)
  rotate_left
  ·have c1d : decide (i < wrap64 (10 * n)) = false := decide_eq_false c1; clear c1; clear h; go_wp2; clear c1d z0 z1 z2 z3 z4 z5 z6 z7 z8 z9 z10 zf0 zf1 zf2 zf3 zf4 zf5 zf6 zf7 zf8 zf9 zf10
   go_loopg [7] k (fun kq v7 w' => ∃ i : Int, v7 = .int .i64 i ∧ Aside0 (spec_NetOk.l2 n l0_7 kq i = some v2) ∧ Aside0 (kq ≤ k) ∧ Aside0 (w'.heap[g1]? = some (.cells #[.int .i64 a0_0, .int .i64 a0_1, .slice A0_2 l0_2.length c0_2, .slice A0_3 l0_3.length c0_3, .slice A0_4 l0_4.length c0_4, .slice A0_5 l0_5.length c0_5, .slice A0_6 l0_6.length c0_6, .slice A0_7 l0_7.length c0_7, .slice A0_8 l0_8.length c0_8, .slice A0_9 l0_9.length c0_9, .int .i64 a0_10] 35 (0, 0))) ∧ Aside0 (Below w.heap.size w w'))
   case atStart => exact ⟨0, rfl, H2, ⟨Nat.le_refl _⟩, ⟨bq_ B1.out⟩, ⟨bb_ HB.out⟩⟩
   clear H2 B1 HB; obtain ⟨i, rfl, HA, HKk2, B1, HB⟩ := hrel; cases gk with
   | zero => exact absurd HA.out (by simp [spec_NetOk.l2])
   | succ k2 =>
    have h := HA.out; clear HA; simp only [spec_NetOk.l2] at h; obtain ⟨z0, z1, z2, z3, z4, z5, z6, z7, z8, z9, z10, zf0, zf1, zf2, zf3, zf4, zf5, zf6, zf7, zf8, zf9, zf10⟩ := cz11_ B1.out
    by_cases c1 : i < wrap64 (5 * n)
    rotate_left
    ·have c1d : decide (i < wrap64 (5 * n)) = false := decide_eq_false c1; clear c1; clear h; go_wp2; clear c1d z0 z1 z2 z3 z4 z5 z6 z7 z8 z9 z10 zf0 zf1 zf2 zf3 zf4 zf5 zf6 zf7 zf8 zf9 zf10
     go_loopg [8] k (fun kq v8 w' => ∃ i : Int, v8 = .int .i64 i ∧ Aside0 (spec_NetOk.l3 a0_0 a0_1 n l0_8 kq i = some r) ∧ Aside0 (kq ≤ k) ∧ Aside0 (w'.heap[g1]? = some (.cells #[.int .i64 a0_0, .int .i64 a0_1, .slice A0_2 l0_2.length c0_2, .slice A0_3 l0_3.length c0_3, .slice A0_4 l0_4.length c0_4, .slice A0_5 l0_5.length c0_5, .slice A0_6 l0_6.length c0_6, .slice A0_7 l0_7.length c0_7, .slice A0_8 l0_8.length c0_8, .slice A0_9 l0_9.length c0_9, .int .i64 a0_10] 35 (0, 0))) ∧ Aside0 (Below w.heap.size w w'))
     case atStart => exact ⟨0, rfl, H3, ⟨Nat.le_refl _⟩, ⟨bq_ B1.out⟩, ⟨bb_ HB.out⟩⟩
     clear H3 B1 HB; obtain ⟨i, rfl, HA, HKk3, B1, HB⟩ := hrel; cases gk with
     | zero => exact absurd HA.out (by simp [spec_NetOk.l3])
     | succ k3 =>
      have h := HA.out; clear HA; simp only [spec_NetOk.l3] at h; obtain ⟨z0, z1, z2, z3, z4, z5, z6, z7, z8, z9, z10, zf0, zf1, zf2, zf3, zf4, zf5, zf6, zf7, zf8, zf9, zf10⟩ := cz11_ B1.out
      by_cases c1 : i < n
      rotate_left
      ·have c1d : decide (i < n) = false := decide_eq_false c1; clear c1; rw [if_neg (of_decide_eq_false c1d)] at h; obtain rfl := Option.some.inj h; clear h; go_wp2; go_ret; exact ⟨rfl, bb_ HB.out⟩
      rw [if_pos c1] at h; have c1d : decide (i < n) = true := decide_eq_true c1
      by_cases c2 : 0 ≤ i ∧ i < (l0_8.length : Int) ∧ ¬ ((rd_L4 l0_8 i).length : Int) > 60
      rotate_left
      ·rw [if_neg c2] at h; cases h
      rw [if_pos c2] at h
      obtain ⟨u, e_, h⟩ := Option.bind_eq_some_iff.1 h; have E1 := am e_; clear e_
      by_cases c3 : u = true
      rotate_left
      ·rw [if_neg c3] at h; cases h
      rw [if_pos c3] at h
      subst c3; have H3 := am h; clear h
      obtain ⟨ad, Ai, ci, ea, xi, hli, hi⟩ := at_L4 (Kd.C_below HR8.out HB.out) i c2.1 c2.2.1; obtain ⟨m, hm⟩ : ∃ y_, y_ = rd_L4 l0_8 i := ⟨_, rfl⟩; rw [← hm] at E1 xi hli hi c2; subst ea; have p1 := eq_true c2.1; have p2 := eq_true c2.2.1; have p3 : decide ((m.length : Int) > 60) = false := decide_eq_false c2.2.2; clear c1 c2 hm
      have HI := am hi; have HLI := am hli; clear hi hli; go_upto_region 23 with fail; clear c1d z0 z1 z2 z3 z4 z5 z6 z7 z8 z9 z10 zf0 zf1 zf2 zf3 zf4 zf5 zf6 zf7 zf8 zf9 zf10; have xw : wr.cell? (ad.add i.toNat) = some (.slice Ai m.length ci) := xi; have HQ := am (Below.refl wr.heap.size wr); have XX : Aside0 (∀ W, Below wr.heap.size wr W → W.cell? (ad.add i.toNat) = some (.slice Ai m.length ci)) := ⟨fun W hW => (hW.cell (World.block_lt_of_cell? _ _ xi)).trans xi⟩; clear xi xw
      go_region_held3 (fun w' => w'.cell? ⟨g1, 0, none⟩ = some (.int .i64 a0_0) ∧ w'.cell? ⟨g1, 1, none⟩ = some (.int .i64 a0_1) ∧ w'.cell? ⟨g1, 8, none⟩ = some (.slice (some ad) l0_8.length c0_8) ∧ w'.cell? (ad.add i.toNat) = some (.slice Ai m.length ci)) (exact ⟨(blk_cell (bq_ B1.out) 0).trans rfl, (blk_cell (bq_ B1.out) 1).trans rfl, (blk_cell (bq_ B1.out) 8).trans rfl, XX.out _ (bb_ HQ.out)⟩) (first | (go_at_call 68; (with_reducible refine (spec_l15Flits.calls k3 a0_0 a0_1 _ _ m true _ (cb_ HI.out HQ.out) HLI.out E1.out).mono ?_); rintro e w5 ⟨rfl, hb⟩; replace HQ := am (bs_ HQ.out hb); replace B1 := kb_ B1 hb; replace HB := h9_ HB hb; clear hb))
      clear p1 p2 p3; go_wp2
      go_roundg k3
      case measure => have := HKk3.out; omega
      case rel => exact ⟨_, rfl, H3, ⟨by have := HKk3.out; omega⟩, ⟨bq_ B1.out⟩, ⟨bb_ HB.out⟩⟩
    rw [if_pos c1] at h; have c1d : decide (i < wrap64 (5 * n)) = true := decide_eq_true c1
    by_cases c2 : 0 ≤ i ∧ i < (l0_7.length : Int)
    rotate_left
    ·rw [if_neg c2] at h; cases h
    rw [if_pos c2] at h
    obtain ⟨v, e_, h⟩ := Option.bind_eq_some_iff.1 h; have E1 := am e_; clear e_
    by_cases c3 : v = true
    rotate_left
    ·rw [if_neg c3] at h; cases h
    rw [if_pos c3] at h
    subst c3; have H2 := am h; clear h; obtain ⟨ad, ea, xi⟩ := Kd.at_int (Kd.C_below HR7.out HB.out) i c2.1 c2.2; subst ea; have p1 := eq_true c2.1; have p2 := eq_true c2.2; clear c1 c2
    go_wp2_with (first | (go_at_call 40; (with_reducible refine (spec_l01In.calls (rd l0_7 i) (0) 9 true _ E1.out).mono ?_); rintro e w5 ⟨rfl, hd⟩; have hb := hd.below; clear hd; replace B1 := kb_ B1 hb; replace HB := h9_ HB hb; clear hb; clear z0 z1 z2 z3 z4 z5 z6 z7 z8 z9 z10 zf0 zf1 zf2 zf3 zf4 zf5 zf6 zf7 zf8 zf9 zf10))
    go_roundg k2
    case measure => have := HKk2.out; omega
    case rel => exact ⟨_, rfl, H2, ⟨by have := HKk2.out; omega⟩, ⟨bq_ B1.out⟩, ⟨bb_ HB.out⟩⟩
  rw [if_pos c1] at h; have c1d : decide (i < wrap64 (10 * n)) = true := decide_eq_true c1
  by_cases c2 : 0 ≤ i ∧ i < (l0_5.length : Int) ∧ i < (l0_6.length : Int) ∧ ¬ ((rd_L4 l0_5 i).length : Int) > 3
  rotate_left
  ·rw [if_neg c2] at h; cases h
  rw [if_pos c2] at h
  obtain ⟨u, e_, h⟩ := Option.bind_eq_some_iff.1 h; have E1 := am e_; clear e_
  by_cases c3 : u = true
  rotate_left
  ·rw [if_neg c3] at h; cases h
  rw [if_pos c3] at h
  subst c3; obtain ⟨v, e_, h⟩ := Option.bind_eq_some_iff.1 h; have E2 := am e_; clear e_
  by_cases c3 : v = true
  rotate_left
  ·rw [if_neg c3] at h; cases h
  rw [if_pos c3] at h
  subst c3; obtain ⟨v1, e_, h⟩ := Option.bind_eq_some_iff.1 h; have H1 := am e_; clear e_; have H0 := am h; clear h
  obtain ⟨ad, Ai, ci, ea, xi, hli, hi⟩ := at_L4 (Kd.C_below HR5.out HB.out) i c2.1 c2.2.1; obtain ⟨m, hm⟩ : ∃ y_, y_ = rd_L4 l0_5 i := ⟨_, rfl⟩; rw [← hm] at E1 H1 xi hli hi c2; subst ea; obtain ⟨ao, eo, xo⟩ := Kd.at_int (Kd.C_below HR6.out HB.out) i c2.1 c2.2.2.1; subst eo; have p1 := eq_true c2.1; have p2 := eq_true c2.2.1; have p4 := eq_true c2.2.2.1; have p3 : decide ((m.length : Int) > 3) = false := decide_eq_false c2.2.2.2; clear c1 c2 hm; have HI := am hi; have HLI := am hli; clear hi hli; have XO : Aside0 (∀ W, Below wr.heap.size wr W → W.cell? (ao.add i.toNat) = some (.int .i64 (rd l0_6 i))) := ⟨fun W hW => (hW.cell (World.block_lt_of_cell? _ _ xo)).trans xo⟩; clear xo; have HQ := am (Below.refl wr.heap.size wr)
  go_wp2_with (first | (go_at_call 68; (with_reducible refine (spec_l15Flits.calls k1 a0_0 a0_1 _ _ m true _ (cb_ HI.out HQ.out) HLI.out E1.out).mono ?_); rintro e w5 ⟨rfl, hb⟩; replace HQ := am (bs_ HQ.out hb); replace B1 := kb_ B1 hb; replace HB := h9_ HB hb; clear hb; clear z0 z1 z2 z3 z4 z5 z6 z7 z8 z9 z10 zf0 zf1 zf2 zf3 zf4 zf5 zf6 zf7 zf8 zf9 zf10; obtain ⟨z0, z1, z2, z3, z4, z5, z6, z7, z8, z9, z10, zf0, zf1, zf2, zf3, zf4, zf5, zf6, zf7, zf8, zf9, zf10⟩ := cz11_ B1.out; clear xi; have xo := XO.out _ HQ.out) | (go_at_call 40; (with_reducible refine (spec_l01In.calls (rd l0_6 i) (-1) 4 true _ E2.out).mono ?_); rintro e w6 ⟨rfl, hd⟩; have hb := hd.below; clear hd xo; replace HQ := am (bs_ HQ.out hb); replace B1 := kb_ B1 hb; replace HB := h9_ HB hb; clear hb; clear z0 z1 z2 z3 z4 z5 z6 z7 z8 z9 z10 zf0 zf1 zf2 zf3 zf4 zf5 zf6 zf7 zf8 zf9 zf10))
  clear c1d p1 p2 p3 p4 E1 E2 XO
  have HI2 := am (Kd.C_below HI.out HQ.out); clear HI HQ HLI
  go_loopg [6] k1 (fun kq v6 w' => ∃ j : Int, v6 = .int .i64 j ∧ Aside0 (spec_NetOk.l1 m (Int.tmod i 2) kq j = some v1) ∧ Aside0 (kq ≤ k1) ∧ Aside0 (Kd.C k72 w' Ai m.length m) ∧ Aside0 (w'.heap[g1]? = some (.cells #[.int .i64 a0_0, .int .i64 a0_1, .slice A0_2 l0_2.length c0_2, .slice A0_3 l0_3.length c0_3, .slice A0_4 l0_4.length c0_4, .slice (some ad) l0_5.length c0_5, .slice (some ao) l0_6.length c0_6, .slice A0_7 l0_7.length c0_7, .slice A0_8 l0_8.length c0_8, .slice A0_9 l0_9.length c0_9, .int .i64 a0_10] 35 (0, 0))) ∧ Aside0 (Below w.heap.size w w'))
  case atStart => exact ⟨0, rfl, H1, ⟨Nat.le_refl _⟩, ⟨cb_ HI2.out (Below.refl _ _)⟩, ⟨bq_ B1.out⟩, ⟨bb_ HB.out⟩⟩
  clear H1 B1 HB HI2; obtain ⟨j, rfl, HA, HKj, HI2, B1, HB⟩ := hrel; cases gk with
  | zero => exact absurd HA.out (by simp [spec_NetOk.l1])
  | succ kj =>
   have h := HA.out; clear HA; simp only [spec_NetOk.l1] at h; by_cases c1 : j < (m.length : Int)
   rotate_left
   ·have c1d : decide (j < (m.length : Int)) = false := decide_eq_false c1; clear c1 h; go_wp2
    go_roundg k1
    case measure => have := HKk1.out; omega
    case rel => exact ⟨_, rfl, H0, ⟨by have := HKk1.out; omega⟩, ⟨bq_ B1.out⟩, ⟨bb_ HB.out⟩⟩
   rw [if_pos c1] at h; have c1d : decide (j < (m.length : Int)) = true := decide_eq_true c1
   by_cases c2 : 0 ≤ j ∧ (rd_T72 m j).f2 = Int.tmod i 2
   rotate_left
   ·rw [if_neg c2] at h; cases h
   rw [if_pos c2] at h
   have H1 := am h; clear h
   obtain ⟨af, ef, -, -, xf, -, -⟩ := at_T72 HI2.out j c2.1 c1; subst ef; have p1 := eq_true c2.1; have p2 := eq_true c1; have p3 := bne_eq_false_iff_eq.mpr c2.2; clear c1 c2; go_wp2; go_roundg kj
   case measure => have := HKj.out; omega
   case rel => exact ⟨_, rfl, H1, ⟨by have := HKj.out; omega⟩, ⟨cb_ HI2.out (Below.refl _ _)⟩, ⟨bq_ B1.out⟩, ⟨bb_ HB.out⟩⟩
def spec_l15Lists.l0 : Nat → List (List (S72)) → List (List (S72)) → Int → Option ((List (List (S72))))
 | 0, _, _, _ => none
 | k + 1, x0, x3, x4 => if x4 < (x0.length : Int) then ((some (([] : List (S72)) : List (S72))).bind fun y320 => (if 0 ≤ x4 then (if y320.length + (rd_L4 x0 x4).length < 4398046511104 then (if x3.length < 5864062014805 then (spec_l15Lists.l0 k x0 (x3 ++ [(y320 ++ (rd_L4 x0 x4))]) (wrap64 (x4 + 1))) else (none)) else (none)) else (none))) else (some x3)
def spec_l15Lists.f (k : Nat) (l0 : List (List (S72))) : Option ((List (List (S72)))) := spec_l15Lists.l0 k l0 (([] : List (List (S72)))) 0
theorem spec_l15Lists.calls (k : Nat) (A0 : Option Addr) (c0 : Nat) (l0 : List (List (S72))) (r : List (List (S72))) (w : World) (hr0 : Kd.C (Kd.slice 72 k72) w A0 l0.length l0) (hc0 : l0.length ≤ c0) (h : spec_l15Lists.f k l0 = some r) :
  Calls Try.prog 84 #[.slice A0 l0.length c0] w fun e w' => ∃ v0_ : Value, e = .returned (v0_) ∧ Kd.S (Kd.slice 72 k72) 42 w' w.heap.size (fun _ => True) v0_ r ∧ Below w.heap.size w w' := by
 have HR0 := am hr0
 have HC0 := am hc0
 clear hr0 hc0
 have HB := am (Below.refl w.heap.size w)
 have H : (spec_l15Lists.l0 k l0 (([] : List (List (S72)))) 0) = some r := h
 clear h
 obtain ⟨y317, hy317⟩ : ∃ y_ : List (List (S72)), y_ = (([] : List (List (S72)))) := ⟨_, rfl⟩
 replace H : (spec_l15Lists.l0 k l0 y317 0) = some r := ry_ hy317 H
 have Ny317 := am hy317
 clear hy317
 have H' := am H
 clear H
 go_enter Try.func84, Try.ntmps84
 go_wp2_with (first | ((with_reducible refine gate_dst (N := 5) rfl ?_); refine Kd.S_lit (Kd.slice 72 k72) _ 42 ?hg (N := 5) ?hd (xs := ([] : List (List (S72)))) (inner := []) (ok := fun _ => True) (okp := fun _ => True) ?hr ?hp (fun _ hk => hk) trivial (Below.refl _ _) (Nat.le_refl _) (by simp) ?_; (case hd => rfl); (case hg => rfl); (case hr => first | (go_simp; done) | (go_simp; rfl)); (case hp => exact (Reps.none _ _)); intro v318 w2 ho3 hb hg_ hnew_; clear hg_ hnew_; (first | rw [← Ny317.out] at ho3 | (simp only [Int.reduceToNat] at ho3; rw [← Ny317.out] at ho3)); have HO319 := am (Kd.S_lower ho3 (bz_ HB.out)); replace HB := h9_ HB hb; clear hb ho3))
 go_loopg [3, 4] k (fun kq v3 v4 w' => ∃ (x3_1 : List (List (S72))) (x4_1 : Int), v4 = .int .i64 x4_1 ∧ Aside0 (spec_l15Lists.l0 kq l0 x3_1 x4_1 = some r) ∧ Aside0 (kq ≤ k) ∧ Aside0 (Kd.S (Kd.slice 72 k72) 42 w' w.heap.size (fun _ => True) v3 x3_1) ∧ Aside0 (Below w.heap.size w w'))
 case atStart => exact ⟨(y317), (0), ef_, H', ⟨Nat.le_refl _⟩, ⟨by (with_reducible repeat (first | apply Kd.S_alloc | apply Kd.S_drewN | apply Kd.S_drew)); exact HO319.out⟩, ⟨bb_ HB.out⟩⟩
 clear H'
 obtain ⟨x3_1, x4_1, rfl, HA, HK1, HO_3, HB⟩ := hrel
 obtain _ | k1 := gk
 ·exact absurd HA.out (by simp [spec_l15Lists.l0])
 have H := HA.out
 clear HA
 simp only [spec_l15Lists.l0] at H
 by_cases c4 : x4_1 < (l0.length : Int)
 rotate_left
 ·rw [if_neg c4] at H
  have c4b0 : decide (x4_1 < (l0.length : Int)) = false := decide_eq_false c4
  clear c4
  obtain rfl := Option.some.inj H
  go_wp2
  go_ret
  exact ⟨_, fin_, by (with_reducible repeat (first | apply Kd.S_alloc | apply Kd.S_drewN | apply Kd.S_drew)); exact HO_3.out, bb_ HB.out⟩
 rw [if_pos c4] at H
 have c4b0 : decide (x4_1 < (l0.length : Int)) = true := decide_eq_true c4
 clear c4
 obtain ⟨y320, Ny320, H⟩ := bo_ H
 by_cases c5 : 0 ≤ x4_1
 rotate_left
 ·rw [if_neg c5] at H
  exact absurd H (by simp)
 rw [if_pos c5] at H
 have c5b0 : decide (0 ≤ x4_1) = true := decide_eq_true c5
 clear c5
 by_cases c6 : y320.length + (rd_L4 l0 x4_1).length < 4398046511104
 rotate_left
 ·rw [if_neg c6] at H
  exact absurd H (by simp)
 rw [if_pos c6] at H
 have LMc6 := am c6
 clear c6
 obtain ⟨y324, hy324⟩ : ∃ y_ : List (S72), y_ = (y320 ++ (rd_L4 l0 x4_1)) := ⟨_, rfl⟩
 replace H : (if x3_1.length < 5864062014805 then (spec_l15Lists.l0 k1 l0 (x3_1 ++ [y324]) (wrap64 (x4_1 + 1))) else (none)) = some r := ry_ hy324 H
 have Ny324 := am hy324
 clear hy324
 by_cases c7 : x3_1.length < 5864062014805
 rotate_left
 ·rw [if_neg c7] at H
  exact absurd H (by simp)
 rw [if_pos c7] at H
 have LMc7 := am c7
 clear c7
 obtain ⟨y327, hy327⟩ : ∃ y_ : List (List (S72)), y_ = (x3_1 ++ [y324]) := ⟨_, rfl⟩
 replace H : (spec_l15Lists.l0 k1 l0 y327 (wrap64 (x4_1 + 1))) = some r := ry_ hy327 H
 have Ny327 := am hy327
 clear hy327
 have H' := am H
 clear H
 go_wp2_with (first | ((with_reducible refine gate_dst (N := 13) rfl ?_); refine Kd.R_lit k72 _ 72 ?hg (N := 13) ?hd (xs := ([] : List (S72))) (inner := []) (ok := fun _ => True) (okp := fun _ => True) ?hr ?hp (fun _ hk => hk) trivial (Below.refl _ _) (Nat.le_refl _) (by simp) ?_; (case hd => rfl); (case hg => rfl); (case hr => first | (go_simp; done) | (go_simp; rfl)); (case hp => exact (Reps.none _ _)); intro v321 w8 ho9 hb hg_ hnew_; clear hg_ hnew_; (first | rw [← Ny320.out] at ho9 | (simp only [Int.reduceToNat] at ho9; rw [← Ny320.out] at ho9)); replace HO_3 := am (Kd.S_elder' (sa_ HO_3.out) (Kd.R_base ho9) hb); have HO322 := am (Kd.R_lower ho9 (bz_ HB.out)); replace HB := h9_ HB hb; clear hb ho9; have p323 : 0 ≤ (x4_1 : Int) := of_decide_eq_true dg_; have q323 : x4_1 < (l0.length : Int) := of_decide_eq_true dg_; obtain ⟨ad323, A323_0, c323_0, e323, hx323_0, hl323_0, hi323_0⟩ := at_L4 HR0.out x4_1 p323 q323; cases e323; replace hx323_0 := hc_ HB hx323_0; have HR323_0 := am hi323_0; have HC323_0 := am hl323_0; clear hi323_0 hl323_0; replace p323 := eq_true p323; replace q323 := eq_true q323) | ((with_reducible refine gate_builtin (b := .append) (xs := #[.tmp 13, .tmp 17]) rfl ?_); at_builtin; refine Kd.R_append_rows k72 (w0 := w) w.heap.size rfl (.tmp 13) (.tmp 17) 42 72 (.agg #[(.int .i64 0), (.int .i64 0), (.int .i64 0), (.bool false), (.bool false)]) 32 rfl Try.underlying42 info72 rfl (by decide) (by omega) v321 y320 (rd_L4 l0 x4_1) _ _ _ (fun _ => True) (fun _ => False) rfl rfl ?aO ?aR (fun _ _ h => h) (fun _ h => h.elim) ?aF ?aB ?aS ?aL ?_; (case aR => exact cb_ HR323_0.out HB.out); (case aB => exact (hb_ HB.out)); (case aF => exact (fun _ _ => trivial)); (case aO => exact (ra_ HO322.out)); (case aS => exact (bz_ HB.out)); (case aL => have := LMc6.out; omega); intro v325 w10 ho hb hg hat; rw [← Ny324.out] at ho; have n0_ := am (Kd.S_after (ok := (fun _ => True)) (sa_ HO_3.out) hg hat); have n1_ := am (hb); have n2_ := am (ho); clear HO_3; clear HB; clear HO322; have HO_3 := n0_; have HB := n1_; have HO326 := n2_; clear n0_ n1_ n2_; clear ho hb hg hat; obtain ⟨Ao12, co12, eo12⟩ := Kd.R_slice HO326.out; subst eo12) | ((with_reducible refine gate_builtin (b := .append) (xs := #[.tmp 12, .tmp 19]) rfl ?_); at_builtin; refine Kd.S_append (Kd.slice 72 k72) (w0 := w) w.heap.size rfl (.tmp 12) (.tmp 19) 33 42 (.slice none 0 0) 24 rfl Try.underlying33 info42 rfl (by decide) (by omega) u3 x3_1 y324 [.slice Ao12 y324.length co12] (fun _ => True) (fun k_ => some k_ = (.slice Ao12 y324.length co12 : Value).ownBlock) rfl rfl ?aP (fun k_ hk_ => ((Kd.R_mono (ok' := fun k_ => ((fun _ => True)) k_ ∧ some k_ ≠ (u3 : Value).ownBlock) (Kd.R_apart' (HO326.out) (Kd.S_typed HO_3.out) (by decide)) (fun k_ hk => ⟨trivial, hk.2⟩))).1 k_ hk_.symm) ?aF ?aO ?aB ?aS ?aL ?_; (case aP => exact Kd.M_row (Kd.R_mono (Kd.R_tight rfl (Kd.R_mono (ok' := fun k_ => ((fun _ => True)) k_ ∧ some k_ ≠ (u3 : Value).ownBlock) (Kd.R_apart' (HO326.out) (Kd.S_typed HO_3.out) (by decide)) (fun k_ hk => ⟨trivial, hk.2⟩))) (fun _ h_ => h_))); (case aB => exact (hb_ HB.out)); (case aF => exact (fun _ _ => trivial)); (case aO => exact (by (with_reducible repeat (first | apply Kd.S_alloc | apply Kd.S_drewN | apply Kd.S_drew)); exact Kd.S_mono HO_3.out (fun k_ hk => ⟨trivial, fun e_ => hk.2 e_⟩))); (case aS => exact (bz_ HB.out)); (case aL => have := LMc7.out; omega); intro v328 w11 ho hb hg hat; rw [← Ny327.out] at ho; have n0_ := am (hb); have n1_ := am (ho); clear HB; clear HO_3; clear HO326; have HB := n0_; have HO329 := n1_; clear n0_ n1_; clear ho hb hg hat))
 go_roundg k1
 case measure => have := HK1.out; omega
 case rel => exact ⟨(y327), (wrap64 (x4_1 + 1)), ef_, H', ⟨by have := HK1.out; omega⟩, ⟨by (with_reducible repeat (first | apply Kd.S_alloc | apply Kd.S_drewN | apply Kd.S_drew)); exact HO329.out⟩, ⟨bb_ HB.out⟩⟩
end Go.Proofs.Yteiemoooelpdaaa.PFnCreditSum
-- thin
