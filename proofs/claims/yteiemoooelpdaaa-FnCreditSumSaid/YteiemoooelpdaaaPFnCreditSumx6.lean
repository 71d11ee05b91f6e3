
import Derived.Test.YteiemoooelpdaaaPFnCreditSumx0
import Derived.Test.YteiemoooelpdaaaPFnCreditSumx1
import Derived.Test.YteiemoooelpdaaaPFnCreditSumx5
namespace Go.Proofs.Yteiemoooelpdaaa.PFnCreditSum
open Go.RowKit Go.Proofs.YteiemoooelpdaaaW.PrintWords Go.Proofs.YteiemoooelpdaaaW.PrintLast Go.Proofs.YteiemoooelpdaaaW.PrintMore
attribute [local go_sem] max2_int min2_int max_two min_two max_three min_three max_four min_four
set_option linter.unusedVariables false
set_option maxHeartbeats 8000000
set_option maxRecDepth 100000
set_option linter.unusedSimpArgs false
def spec_MeshOk.l0 : Nat → Int → Int → Int → List Int → Option (Bool)
 | 0, _, _, _, _ => none
 | k + 1, x3, x238000, x238001, x238002 => if x3 < (x238002.length : Int) then (if 0 ≤ x3 then ((spec_l03Leads.f x238000 x238001 (rd x238002 x3)).bind fun t240 => (if t240 = true then (if x3 > 0 then (if 0 ≤ (wrap64 (x3 - 1)) then (if (wrap64 (x3 - 1)) < (x238002.length : Int) then (if (rd x238002 x3) ≤ (rd x238002 (wrap64 (x3 - 1))) then (none) else (spec_MeshOk.l0 k (wrap64 (x3 + 1)) x238000 x238001 x238002)) else (none)) else (none)) else (spec_MeshOk.l0 k (wrap64 (x3 + 1)) x238000 x238001 x238002)) else (none))) else (none)) else (some true)
def spec_MeshOk.f (k : Nat) (a0_0 : Int) (a0_1 : Int) (l0_2 : List Int) : Option (Bool) := (spec_GridOk.f a0_0 a0_1).bind fun t238 => (if t238 = true then (spec_MeshOk.l0 k 0 a0_0 a0_1 l0_2) else (none))
theorem spec_MeshOk.mono_l : ∀ k, (∀ y0 y1 y2 y3, LeO (spec_MeshOk.l0 k y0 y1 y2 y3) (spec_MeshOk.l0 (k + 1) y0 y1 y2 y3))
 | 0 => fun _ _ _ _ r h => by simp [spec_MeshOk.l0] at h
 | k + 1 => by
  have ih0 := spec_MeshOk.mono_l k
  ·intro y0 y1 y2 y3
   unfold spec_MeshOk.l0
   repeat' (with_reducible first | exact ih0 .. | exact LeO.refl .. | exact LeO.none .. | refine LeO.ite ?_ ?_ | refine LeO.bind ?_ (fun _ => ?_))
theorem spec_MeshOk.mono : ∀ a0 a1 a2 k, LeO (spec_MeshOk.f k a0 a1 a2) (spec_MeshOk.f (k + 1) a0 a1 a2) := by
 intro a0 a1 a2 k
 have ih0 := spec_MeshOk.mono_l k
 unfold spec_MeshOk.f
 repeat' (with_reducible first | exact ih0 .. | exact LeO.refl .. | exact LeO.none .. | refine LeO.ite ?_ ?_ | refine LeO.bind ?_ (fun _ => ?_))
def spec_MeshOk.T6 : Bool × List (List Nat × List Nat) := (true, [([], []), ([0], [0]), ([], []), ([2], [2]), ([], []), ([3, 4], [3, 4]), ([5], [5]), ([1, 6], [1, 6]), ([7], [7]), ([8, 7], [8]), ([9], [9]), ([10, 9], [9, 10]), ([11, 9, 9], [9, 11]), ([12], [12]), ([13, 12], [12, 13]), ([12], [12]), ([14, 15, 12], [12, 14, 15]), ([16, 12], [12, 16]), ([12], [12]), ([18, 12], [12, 18]), ([12], [12]), ([20, 12], [12, 20]), ([19, 21, 12], [12, 19, 21]), ([22, 12], [12, 22]), ([17, 23, 12], [12, 17, 23]), ([12, 24, 9], [9, 12, 24]), ([9, 25], [9, 25])])
def spec_MeshOk.B6 : List Nat := [0, 1, 0, 4, 0, 28, 60, 127, 255, 511, 1023, 2047, 4095, 8191, 16383, 8191, 65535, 131071, 8191, 270335, 8191, 1056767, 3940351, 8134655, 16777215, 33554431, 67108863]
theorem spec_MeshOk.tab6 : rtab .any (opsOf Try.f101 6) = spec_MeshOk.T6 := by kernel_rfl
theorem spec_MeshOk.bits6 : waitsOk spec_MeshOk.T6.2 spec_MeshOk.B6 = true := by kernel_rfl
theorem spec_MeshOk.calls (k : Nat) (a0_0 : Int) (a0_1 : Int) (A0_2 : Option Addr) (c0_2 : Nat) (l0_2 : List Int) (r : Bool) (w : World) (hr0_2 : Kd.C (Kd.int .i64) w A0_2 l0_2.length l0_2) (hc0_2 : l0_2.length ≤ c0_2) (h : spec_MeshOk.f k a0_0 a0_1 l0_2 = some r) :
  Calls Try.prog 101 #[.agg #[.int .i64 a0_0, .int .i64 a0_1, .slice A0_2 l0_2.length c0_2]] w fun e w' => e = .returned (.bool r) ∧ Below w.heap.size w w' := by
 have hu28 := Try.underlying28
 have hu25 := Try.underlying25
 have HR0_2 := am hr0_2
 have HC0_2 := am hc0_2
 clear hr0_2 hc0_2
 have HB := am (Below.refl w.heap.size w)
 have H : ((spec_GridOk.f a0_0 a0_1).bind fun t238 => (if t238 = true then (spec_MeshOk.l0 k 0 a0_0 a0_1 l0_2) else (none))) = some r := h
 clear h
 obtain ⟨t238, A2, H⟩ := bi_ H
 by_cases c3 : t238 = true
 ·subst c3
  rw [if_pos rfl] at H
  have H' := am H
  clear H
  go_enter Try.func101, Try.ntmps101
  go_wp2_with (first | ((with_reducible refine gate_dst (N := 1) rfl ?_); refine bx_ 1 #[.int .i64 a0_0, .int .i64 a0_1, .slice A0_2 l0_2.length c0_2] 28 ?_; intro gb237 hg w4 hbox hb; have BK237 := am (hbox); have GW237 := gw_ hg HB; replace HB := h9_ HB hb; clear hb hbox hg; obtain ⟨hcz5_0, hcz5_1, hcz5_2, hfz5_0, hfz5_1, hfz5_2⟩ := cz3_ BK237.out) | ((with_reducible refine gate_callee (f := 79) rfl ?_); refine gm_ (some 6) Try.func79 #[.agg #[.int .i64 a0_0, .int .i64 a0_1]] rfl ?_; (with_reducible refine (spec_GridOk.calls a0_0 a0_1 true _ A2.out).mono ?_); rintro e w6 ⟨rfl, hb⟩; refine ⟨_, rfl, ?_⟩; replace BK237 := kb_ BK237 hb; replace HB := h9_ HB hb; (try clear hb)))
  go_loopg [3] k (fun kq v3 w' => ∃ (x3_1 : Int), v3 = .int .i64 x3_1 ∧ Aside0 (spec_MeshOk.l0 kq x3_1 a0_0 a0_1 l0_2 = some r) ∧ Aside0 (kq ≤ k) ∧ Aside0 (w'.heap[gb237]? = some (.cells #[.int .i64 a0_0, .int .i64 a0_1, (.slice A0_2 l0_2.length c0_2)] 28 (0, 0))) ∧ Aside0 (Below w.heap.size w w'))
  case atStart => exact ⟨(0), ef_, H', ⟨Nat.le_refl _⟩, ⟨bq_ BK237.out⟩, ⟨bb_ HB.out⟩⟩
  clear H'
  try clear c3
  try clear hcz5_0 hcz5_1 hcz5_2 hfz5_0 hfz5_1 hfz5_2
  obtain ⟨x3_1, rfl, HA, HK1, BK237, HB⟩ := hrel
  obtain _ | k1 := gk
  ·exact absurd HA.out (by simp [spec_MeshOk.l0])
  have H := HA.out
  clear HA
  simp only [spec_MeshOk.l0] at H
  by_cases c7 : x3_1 < (l0_2.length : Int)
  rotate_left
  ·rw [if_neg c7] at H
   have c7b0 : decide (x3_1 < (l0_2.length : Int)) = false := decide_eq_false c7
   clear c7
   obtain rfl := Option.some.inj H
   obtain ⟨hcz22_0, hcz22_1, hcz22_2, hfz22_0, hfz22_1, hfz22_2⟩ := cz3_ BK237.out
   go_wp2
   go_ret
   exact ⟨fin_, bb_ HB.out⟩
  rw [if_pos c7] at H
  have c7b0 : decide (x3_1 < (l0_2.length : Int)) = true := decide_eq_true c7
  clear c7
  by_cases c8 : 0 ≤ x3_1
  rotate_left
  ·rw [if_neg c8] at H
   exact absurd H (by simp)
  rw [if_pos c8] at H
  have c8b0 : decide (0 ≤ x3_1) = true := decide_eq_true c8
  clear c8
  obtain ⟨t240, A9, H⟩ := bi_ H
  by_cases c10 : t240 = true
  rotate_left
  ·replace c10 := Bool.eq_false_iff.mpr c10
   subst c10
   rw [if_neg (show ¬ (false = true) by decide)] at H
   exact absurd H (by simp)
  subst c10
  rw [if_pos rfl] at H
  by_cases c11 : x3_1 > 0
  rotate_left
  ·rw [if_neg c11] at H
   have c11b0 : decide (0 < x3_1) = false := decide_eq_false c11
   clear c11
   have H' := am H
   clear H
   obtain ⟨hcz19_0, hcz19_1, hcz19_2, hfz19_0, hfz19_1, hfz19_2⟩ := cz3_ BK237.out
   try go_wp2
   replace BK237 := am (blk_drew BK237.out)
   replace HB := am (below_drew1 HB.out)
   have p239 : 0 ≤ (x3_1 : Int) := of_decide_eq_true dg_
   have q239 : x3_1 < (l0_2.length : Int) := of_decide_eq_true dg_
   obtain ⟨ad239, e239, hx239_0⟩ := Kd.at_int HR0_2.out x3_1 p239 q239
   have hw239_0 := hx239_0
   cases e239
   replace hx239_0 := hc_ HB hx239_0
   replace p239 := eq_true p239
   replace q239 := eq_true q239
   refine start_ (n := 27) (S := fun w' => w'.cell? ⟨gb237, 0, none⟩ = some (.int .i64 a0_0) ∧ w'.cell? ⟨gb237, 1, none⟩ = some (.int .i64 a0_1) ∧ w'.cell? ⟨gb237, 2, none⟩ = some (.slice (some ad239) l0_2.length c0_2) ∧ w'.cell? (ad239.add (x3_1).toNat) = some (.int .i64 (rd l0_2 x3_1))) (ds := []) #[false, false, false, false, false, false, false, false, false, false, false, false, false, false, false, false, false, false, false, false, false, false, false, false, false, false, false] (by kernel_rfl) rfl rfl ⟨(blk_cell BK237.out 0).trans rfl, (blk_cell BK237.out 1).trans rfl, (blk_cell BK237.out 2).trans rfl, (hc_ HB hw239_0 :)⟩ (fun hHeld => ?_); refine with_tabW spec_MeshOk.tab6 spec_MeshOk.bits6 (fun HT_ HW_ => ?_)
   generalize wr.drew = w20 at BK237 HB hx239_0 hHeld ⊢
   refine pu_ 0 15 (bt_ 27 1) HT_ ?_
   refine pu_ 2 17 (bt_ 27 5) HT_ ?_
   refine pu_ 4 19 (bt_ 27 21) HT_ ?_
   refine tw_ 1 16 (bt_ 27 23) HT_ HW_ hHeld ?_
   refine tw_ 3 18 (bt_ 27 31) HT_ HW_ hHeld ?_
   refine pu_ 5 20 (bt_ 27 63) HT_ ?_
   refine tw_ 6 21 (bt_ 27 127) HT_ HW_ hHeld ?_
   refine one_ (i := 7) (N := some 22) (bt_ 27 255) rfl rfl (one_of HT_.out (by kernel_rfl)) (by decide) (fun K hK => ?_)
   refine goes_ Try.func90 (by kernel_rfl) rfl #[.agg #[.int .i64 a0_0, .int .i64 a0_1], .int .i64 (rd l0_2 x3_1)] (by rfl) rfl rfl (by (try simp only [List.map_toArray, List.map_cons, List.map_nil]); first | done | rfl | (simp only [List.length_drop, List.length_take]; rfl)) ?_
   with_reducible refine (spec_l03Leads.calls a0_0 a0_1 (rd l0_2 x3_1) true _ A9.out).mono ?_
   rintro e w21 ⟨rfl, hb⟩
   refine ⟨_, rfl, ?_⟩
   replace BK237 := kb_ BK237 hb
   replace HB := h9_ HB hb
   (try clear hb)
   refine hK.out _ _ ⟨(blk_cell BK237.out 0).trans rfl, (blk_cell BK237.out 1).trans rfl, (blk_cell BK237.out 2).trans rfl, (hc_ HB hw239_0 :)⟩ (fun hHeld => ?_)
   clear hK K
   refine nm_ 22 ?_
   refine pu_ 8 23 (bt_ 27 511) HT_ ?_
   refine pu_ 9 24 (bt_ 27 1023) HT_ ?_
   refine pu_ 10 25 (bt_ 27 2047) HT_ ?_
   refine pu_ 11 26 (bt_ 27 4095) HT_ ?_
   refine pu_ 12 27 (bt_ 27 8191) HT_ ?_
   refine un_ 13 28 (bt_ 27 16383) HT_ ?_
   refine un_ 14 29 (bt_ 27 32767) HT_ ?_
   refine un_ 15 30 (bt_ 27 65535) HT_ ?_
   refine un_ 16 31 (bt_ 27 131071) HT_ ?_
   refine un_ 17 32 (bt_ 27 262143) HT_ ?_
   refine un_ 18 33 (bt_ 27 524287) HT_ ?_
   refine un_ 19 34 (bt_ 27 1048575) HT_ ?_
   refine un_ 20 35 (bt_ 27 2097151) HT_ ?_
   refine un_ 21 36 (bt_ 27 4194303) HT_ ?_
   refine un_ 22 37 (bt_ 27 8388607) HT_ ?_
   refine un_ 23 38 (bt_ 27 16777215) HT_ ?_
   refine un_ 24 39 (bt_ 27 33554431) HT_ ?_
   refine pu_ 25 40 (bt_ 27 67108863) HT_ ?_
   refine pu_ 26 41 (bt_ 27 134217727) HT_ ?_
   refine done_ (done_of HT_.out (by kernel_rfl)) ?_
   try go_wp2
   go_roundg k1
   case measure => have := HK1.out; omega
   case rel => exact ⟨(wrap64 (x3_1 + 1)), ef_, H', ⟨by have := HK1.out; omega⟩, ⟨bq_ BK237.out⟩, ⟨bb_ HB.out⟩⟩
  rw [if_pos c11] at H
  have c11b0 : decide (0 < x3_1) = true := decide_eq_true c11
  clear c11
  obtain ⟨ji12, hji12⟩ : ∃ j_ : Int, (wrap64 (x3_1 - 1)) = j_ := ⟨_, rfl⟩
  replace H : (if 0 ≤ (ji12) then (if (ji12) < (l0_2.length : Int) then (if (rd l0_2 x3_1) ≤ (rd l0_2 (ji12)) then (none) else (spec_MeshOk.l0 k1 (wrap64 (x3_1 + 1)) a0_0 a0_1 l0_2)) else (none)) else (none)) = some r := by first | (rw [hji12] at H; exact H) | (simp only [hji12] at H ⊢; exact H)
  (try rw [hji12] at A9)
  have hji12w : (IntKind.i64.wrap (x3_1 - 1)) = ji12 := (i64_w _).trans hji12
  by_cases c13 : 0 ≤ (ji12)
  rotate_left
  ·rw [if_neg c13] at H
   exact absurd H (by simp)
  rw [if_pos c13] at H
  have c13b0 : decide (0 ≤ (ji12)) = true := decide_eq_true c13
  clear c13
  by_cases c14 : (ji12) < (l0_2.length : Int)
  rotate_left
  ·rw [if_neg c14] at H
   exact absurd H (by simp)
  rw [if_pos c14] at H
  have c14b0 : decide ((ji12) < (l0_2.length : Int)) = true := decide_eq_true c14
  clear c14
  by_cases c15 : (rd l0_2 x3_1) ≤ (rd l0_2 (ji12))
  ·rw [if_pos c15] at H
   exact absurd H (by simp)
  rw [if_neg c15] at H
  have c15b0 : decide ((rd l0_2 x3_1) ≤ (rd l0_2 (ji12))) = false := decide_eq_false c15
  clear c15
  have H' := am H
  clear H
  obtain ⟨hcz16_0, hcz16_1, hcz16_2, hfz16_0, hfz16_1, hfz16_2⟩ := cz3_ BK237.out
  try go_wp2
  replace BK237 := am (blk_drew BK237.out)
  replace HB := am (below_drew1 HB.out)
  have p239 : 0 ≤ (x3_1 : Int) := of_decide_eq_true dg_
  have q239 : x3_1 < (l0_2.length : Int) := of_decide_eq_true dg_
  obtain ⟨ad239, e239, hx239_0⟩ := Kd.at_int HR0_2.out x3_1 p239 q239
  have hw239_0 := hx239_0
  cases e239
  replace hx239_0 := hc_ HB hx239_0
  replace p239 := eq_true p239
  replace q239 := eq_true q239
  have p241 : 0 ≤ (x3_1 : Int) := of_decide_eq_true dg_
  have q241 : x3_1 < (l0_2.length : Int) := of_decide_eq_true dg_
  obtain ⟨ad241, e241, hx241_0⟩ := Kd.at_int HR0_2.out x3_1 p241 q241
  have hw241_0 := hx241_0
  obtain rfl : ad239 = ad241 := (by injection e241)
  replace hx241_0 := hc_ HB hx241_0
  replace p241 := eq_true p241
  replace q241 := eq_true q241
  have p242 : 0 ≤ ((ji12) : Int) := of_decide_eq_true dg_
  have q242 : (ji12) < (l0_2.length : Int) := of_decide_eq_true dg_
  obtain ⟨ad242, e242, hx242_0⟩ := Kd.at_int HR0_2.out (ji12) p242 q242
  have hw242_0 := hx242_0
  obtain rfl : ad239 = ad242 := (by injection e242)
  replace hx242_0 := hc_ HB hx242_0
  replace p242 := eq_true p242
  replace q242 := eq_true q242
  refine start_ (n := 27) (S := fun w' => w'.cell? ⟨gb237, 0, none⟩ = some (.int .i64 a0_0) ∧ w'.cell? ⟨gb237, 1, none⟩ = some (.int .i64 a0_1) ∧ w'.cell? ⟨gb237, 2, none⟩ = some (.slice (some ad239) l0_2.length c0_2) ∧ w'.cell? (ad239.add (x3_1).toNat) = some (.int .i64 (rd l0_2 x3_1)) ∧ w'.cell? (ad239.add (x3_1).toNat) = some (.int .i64 (rd l0_2 x3_1)) ∧ w'.cell? (ad239.add ((ji12)).toNat) = some (.int .i64 (rd l0_2 (ji12)))) (ds := []) #[false, false, false, false, false, false, false, false, false, false, false, false, false, false, false, false, false, false, false, false, false, false, false, false, false, false, false] (by kernel_rfl) rfl rfl ⟨(blk_cell BK237.out 0).trans rfl, (blk_cell BK237.out 1).trans rfl, (blk_cell BK237.out 2).trans rfl, (hc_ HB hw239_0 :), (hc_ HB hw241_0 :), (hc_ HB hw242_0 :)⟩ (fun hHeld => ?_); refine with_tabW spec_MeshOk.tab6 spec_MeshOk.bits6 (fun HT_ HW_ => ?_)
  generalize wr.drew = w17 at BK237 HB hx239_0 hx241_0 hx242_0 hHeld ⊢
  refine pu_ 0 15 (bt_ 27 1) HT_ ?_
  refine pu_ 2 17 (bt_ 27 5) HT_ ?_
  refine pu_ 4 19 (bt_ 27 21) HT_ ?_
  refine tw_ 1 16 (bt_ 27 23) HT_ HW_ hHeld ?_
  refine tw_ 3 18 (bt_ 27 31) HT_ HW_ hHeld ?_
  refine pu_ 5 20 (bt_ 27 63) HT_ ?_
  refine tw_ 6 21 (bt_ 27 127) HT_ HW_ hHeld ?_
  refine one_ (i := 7) (N := some 22) (bt_ 27 255) rfl rfl (one_of HT_.out (by kernel_rfl)) (by decide) (fun K hK => ?_)
  refine goes_ Try.func90 (by kernel_rfl) rfl #[.agg #[.int .i64 a0_0, .int .i64 a0_1], .int .i64 (rd l0_2 x3_1)] (by rfl) rfl rfl (by (try simp only [List.map_toArray, List.map_cons, List.map_nil]); first | done | rfl | (simp only [List.length_drop, List.length_take]; rfl)) ?_
  with_reducible refine (spec_l03Leads.calls a0_0 a0_1 (rd l0_2 x3_1) true _ A9.out).mono ?_
  rintro e w18 ⟨rfl, hb⟩
  refine ⟨_, rfl, ?_⟩
  replace BK237 := kb_ BK237 hb
  replace HB := h9_ HB hb
  (try clear hb)
  refine hK.out _ _ ⟨(blk_cell BK237.out 0).trans rfl, (blk_cell BK237.out 1).trans rfl, (blk_cell BK237.out 2).trans rfl, (hc_ HB hw239_0 :), (hc_ HB hw241_0 :), (hc_ HB hw242_0 :)⟩ (fun hHeld => ?_)
  clear hK K
  refine nm_ 22 ?_
  refine pu_ 8 23 (bt_ 27 511) HT_ ?_
  refine pu_ 9 24 (bt_ 27 1023) HT_ ?_
  refine pu_ 10 25 (bt_ 27 2047) HT_ ?_
  refine pu_ 11 26 (bt_ 27 4095) HT_ ?_
  refine pu_ 12 27 (bt_ 27 8191) HT_ ?_
  refine pu_ 13 28 (bt_ 27 16383) HT_ ?_
  refine pu_ 15 30 (bt_ 27 49151) HT_ ?_
  refine pu_ 18 33 (bt_ 27 311295) HT_ ?_
  refine pu_ 20 35 (bt_ 27 1359871) HT_ ?_
  refine pu_ 21 36 (bt_ 27 3457023) HT_ ?_
  refine tw_ 14 29 (bt_ 27 3473407) HT_ HW_ hHeld ?_
  refine pu_ 16 31 (bt_ 27 3538943) HT_ ?_
  refine tw_ 17 32 (bt_ 27 3670015) HT_ HW_ hHeld ?_
  refine tw_ 19 34 (bt_ 27 4194303) HT_ HW_ hHeld ?_
  refine pu_ 22 37 (bt_ 27 8388607) HT_ ?_
  refine tw_ 23 38 (bt_ 27 16777215) HT_ HW_ hHeld ?_
  refine pu_ 24 39 (bt_ 27 33554431) HT_ ?_
  refine pu_ 25 40 (bt_ 27 67108863) HT_ ?_
  refine pu_ 26 41 (bt_ 27 134217727) HT_ ?_
  refine done_ (done_of HT_.out (by kernel_rfl)) ?_
  try go_wp2
  go_roundg k1
  case measure => have := HK1.out; omega
  case rel => exact ⟨(wrap64 (x3_1 + 1)), ef_, H', ⟨by have := HK1.out; omega⟩, ⟨bq_ BK237.out⟩, ⟨bb_ HB.out⟩⟩
 ·replace c3 := Bool.eq_false_iff.mpr c3
  subst c3
  rw [if_neg (show ¬ (false = true) by decide)] at H
  exact absurd H (by simp)
def spec_l04Sized.f (k : Nat) (a0_0 : Int) (a0_1 : Int) (l0_2 : List Int) (l1_0 : List Int) : Option (Bool) := (spec_NodeCount.f a0_0 a0_1).bind fun t245 => ((spec_MeshOk.f k a0_0 a0_1 l0_2).bind fun t246 => (if t246 = true then (some ((l1_0.length : Int) == (wrap64 (t245 * t245)))) else (some false)))
theorem spec_l04Sized.mono : ∀ a0 a1 a2 a3 k, LeO (spec_l04Sized.f k a0 a1 a2 a3) (spec_l04Sized.f (k + 1) a0 a1 a2 a3) := by
 intro a0 a1 a2 a3 k
 unfold spec_l04Sized.f
 repeat' (with_reducible first | exact spec_MeshOk.mono .. | exact LeO.refl .. | exact LeO.none .. | refine LeO.ite ?_ ?_ | refine LeO.bind ?_ (fun _ => ?_))
theorem spec_l04Sized.e0 {P : Prop} (h : P := by
 go_enter Try.func97, Try.ntmps97
 go_wp2_with (first | ((with_reducible refine gate_dst (N := 2) rfl ?_); (try (refine gate_guard (by rfl) ?_; dsimp only)); refine bx_ 2 #[.int .i64 a0_0, .int .i64 a0_1, .slice A0_2 l0_2.length c0_2] 28 ?_; intro gb243 hg w_0 hbox hb; have BK243 := am (hbox); have GW243 := gw_ hg HB; replace HB := h9_ HB hb; clear hb hbox hg) | ((with_reducible refine gate_dst (N := 3) rfl ?_); (try (refine gate_guard (by rfl) ?_; dsimp only)); refine bx_ 3 #[.slice A1_0 l1_0.length c1_0] 30 ?_; intro gb244 hg w_0 hbox hb; have BK244 := am (hbox); have GW244 := gw_ hg HB; replace HB := h9_ HB hb; have NB243_244 := nl_ hg BK243; have NB244_243 := ng_ hg BK243; replace BK243 := kb_ BK243 hb; clear hb hbox hg; have hnb_ := NB243_244.out; have hnc_ := NB244_243.out; obtain ⟨hcz_0, hcz_1, hcz_2, hfz_0, hfz_1, hfz_2⟩ := cz3_ BK243.out) | ((with_reducible refine gate_callee (f := 57) rfl ?_); refine gm_ (some 8) Try.func57 #[.agg #[.int .i64 a0_0, .int .i64 a0_1]] rfl ?_; (with_reducible refine (spec_NodeCount.calls a0_0 a0_1 t245 _ A3.out).mono ?_); rintro e w_0 ⟨rfl, hb⟩; refine ⟨_, rfl, ?_⟩; replace BK243 := kb_ BK243 hb; replace BK244 := kb_ BK244 hb; replace HB := h9_ HB hb; (try clear hb); obtain ⟨hcz_0, hcz_1, hcz_2, hfz_0, hfz_1, hfz_2⟩ := cz3_ BK243.out) | ((with_reducible refine gate_callee (f := 101) rfl ?_); refine gm_ (some 10) Try.func101 #[.agg #[.int .i64 a0_0, .int .i64 a0_1, .slice A0_2 l0_2.length c0_2]] rfl ?_; (with_reducible refine (spec_MeshOk.calls k a0_0 a0_1 _ _ l0_2 _ _ ?side1 HC0_2.out A4.out).mono ?_); (case side1 => exact cb_ HR0_2.out HB.out); rintro e w_0 ⟨rfl, hb⟩; refine ⟨_, rfl, ?_⟩; replace BK243 := kb_ BK243 hb; replace BK244 := kb_ BK244 hb; replace HB := h9_ HB hb; (try clear hb); obtain ⟨hcz_0, hfz_0⟩ := cz1_ BK244.out))
 go_ret
 exact ⟨fin_, bb_ HB.out⟩) : P := h
theorem spec_l04Sized.calls (k : Nat) (a0_0 : Int) (a0_1 : Int) (A0_2 : Option Addr) (c0_2 : Nat) (l0_2 : List Int) (A1_0 : Option Addr) (c1_0 : Nat) (l1_0 : List Int) (r : Bool) (w : World) (hr0_2 : Kd.C (Kd.int .i64) w A0_2 l0_2.length l0_2) (hc0_2 : l0_2.length ≤ c0_2) (hr1_0 : Kd.C (Kd.int .i64) w A1_0 l1_0.length l1_0) (hc1_0 : l1_0.length ≤ c1_0) (h : spec_l04Sized.f k a0_0 a0_1 l0_2 l1_0 = some r) :
  Calls Try.prog 97 #[.agg #[.int .i64 a0_0, .int .i64 a0_1, .slice A0_2 l0_2.length c0_2], .agg #[.slice A1_0 l1_0.length c1_0]] w fun e w' => e = .returned (.bool r) ∧ Below w.heap.size w w' := by
 have hu28 := Try.underlying28
 have hu30 := Try.underlying30
 have hu25 := Try.underlying25
 have HR0_2 := am hr0_2
 have HC0_2 := am hc0_2
 clear hr0_2 hc0_2
 have HR1_0 := am hr1_0
 have HC1_0 := am hc1_0
 clear hr1_0 hc1_0
 have HB := am (Below.refl w.heap.size w)
 have H : ((spec_NodeCount.f a0_0 a0_1).bind fun t245 => ((spec_MeshOk.f k a0_0 a0_1 l0_2).bind fun t246 => (if t246 = true then (some ((l1_0.length : Int) == (wrap64 (t245 * t245)))) else (some false)))) = some r := h
 clear h
 obtain ⟨t245, A3, H⟩ := bi_ H
 obtain ⟨t246, A4, H⟩ := bi_ H
 by_cases c5 : t246 = true
 ·subst c5
  rw [if_pos rfl] at H
  obtain rfl := Option.some.inj H
  exact spec_l04Sized.e0
 ·replace c5 := Bool.eq_false_iff.mpr c5
  subst c5
  rw [if_neg (show ¬ (false = true) by decide)] at H
  obtain rfl := Option.some.inj H
  exact spec_l04Sized.e0
def spec_l03Find.l0 : Nat → List Int → Int → Int → Option (Bool)
 | 0, _, _, _ => none
 | k + 1, x0, x1, x5 => if x5 < (x0.length : Int) then (if 0 ≤ x5 then (if (rd x0 x5) = x1 then (some true) else (spec_l03Find.l0 k x0 x1 (wrap64 (x5 + 1)))) else (none)) else (some false)
def spec_l03Find.f (k : Nat) (l0 : List Int) (a1 : Int) : Option (Bool) := spec_l03Find.l0 k l0 a1 0
theorem spec_l03Find.mono_l : ∀ k, (∀ y0 y1 y2, LeO (spec_l03Find.l0 k y0 y1 y2) (spec_l03Find.l0 (k + 1) y0 y1 y2))
 | 0 => fun _ _ _ r h => by simp [spec_l03Find.l0] at h
 | k + 1 => by
  have ih0 := spec_l03Find.mono_l k
  ·intro y0 y1 y2
   unfold spec_l03Find.l0
   repeat' (with_reducible first | exact ih0 .. | exact LeO.refl .. | exact LeO.none .. | refine LeO.ite ?_ ?_ | refine LeO.bind ?_ (fun _ => ?_))
theorem spec_l03Find.mono : ∀ a0 a1 k, LeO (spec_l03Find.f k a0 a1) (spec_l03Find.f (k + 1) a0 a1) := by
 intro a0 a1 k
 have ih0 := spec_l03Find.mono_l k
 unfold spec_l03Find.f
 repeat' (with_reducible first | exact ih0 .. | exact LeO.refl .. | exact LeO.none .. | refine LeO.ite ?_ ?_ | refine LeO.bind ?_ (fun _ => ?_))
theorem spec_l03Find.calls (k : Nat) (A0 : Option Addr) (c0 : Nat) (l0 : List Int) (a1 : Int) (r : Bool) (w : World) (hr0 : Kd.C (Kd.int .i64) w A0 l0.length l0) (hc0 : l0.length ≤ c0) (h : spec_l03Find.f k l0 a1 = some r) :
  Calls Try.prog 91 #[.slice A0 l0.length c0, .int .i64 a1] w fun e w' => e = .returned (.bool r) ∧ Drawn0 w w' := by
 have HR0 := am hr0
 have HC0 := am hc0
 clear hr0 hc0
 have H : (spec_l03Find.l0 k l0 a1 0) = some r := h
 clear h
 have H' := am H
 clear H
 go_enter Try.func91, Try.ntmps91
 go_wp2
 go_loopg [5] k (fun kq v5 w' => ∃ (x5_1 : Int), v5 = .int .i64 x5_1 ∧ Aside0 (spec_l03Find.l0 kq l0 a1 x5_1 = some r) ∧ Aside0 (kq ≤ k) ∧ Drawn0 w w')
 case atStart => exact ⟨(0), ef_, H', ⟨Nat.le_refl _⟩, by repeat (first | exact Drawn0.refl _ | apply Drawn0.step)⟩
 clear H'
 obtain ⟨x5_1, rfl, HA, HK1, ⟨m1, rfl⟩⟩ := hrel
 obtain _ | k1 := gk
 ·exact absurd HA.out (by simp [spec_l03Find.l0])
 have H := HA.out
 clear HA
 simp only [spec_l03Find.l0] at H
 by_cases c3 : x5_1 < (l0.length : Int)
 rotate_left
 ·rw [if_neg c3] at H
  have c3b0 : decide (x5_1 < (l0.length : Int)) = false := decide_eq_false c3
  clear c3
  obtain rfl := Option.some.inj H
  go_wp2
  go_ret
  exact ⟨by first | rfl | (simp; done) | (simp [*]; done), by repeat (first | exact Drawn0.refl _ | apply Drawn0.step)⟩
 rw [if_pos c3] at H
 have c3b0 : decide (x5_1 < (l0.length : Int)) = true := decide_eq_true c3
 clear c3
 by_cases c4 : 0 ≤ x5_1
 rotate_left
 ·rw [if_neg c4] at H
  exact absurd H (by simp)
 rw [if_pos c4] at H
 have c4b0 : decide (0 ≤ x5_1) = true := decide_eq_true c4
 clear c4
 by_cases c5 : (rd l0 x5_1) = a1
 ·rw [if_pos c5] at H
  have c5b0 : ((rd l0 x5_1) == a1) = true := beq_iff_eq.mpr c5
  have c5b1 : ((rd l0 x5_1) != a1) = false := bne_eq_false_iff_eq.mpr c5
  clear c5
  obtain rfl := Option.some.inj H
  have p247 : 0 ≤ (x5_1 : Int) := of_decide_eq_true dg_
  have q247 : x5_1 < (l0.length : Int) := of_decide_eq_true dg_
  obtain ⟨ad247, e247, hx247_0⟩ := Kd.at_int HR0.out x5_1 p247 q247
  cases e247
  replace p247 := eq_true p247
  replace q247 := eq_true q247
  go_wp2
  go_ret
  exact ⟨by first | rfl | (simp; done) | (simp [*]; done), by repeat (first | exact Drawn0.refl _ | apply Drawn0.step)⟩
 rw [if_neg c5] at H
 have c5b0 : ((rd l0 x5_1) == a1) = false := beq_eq_false_iff_ne.mpr c5
 have c5b1 : ((rd l0 x5_1) != a1) = true := bne_iff_ne.mpr c5
 have H' := am H
 clear H
 have p247 : 0 ≤ (x5_1 : Int) := of_decide_eq_true dg_
 have q247 : x5_1 < (l0.length : Int) := of_decide_eq_true dg_
 obtain ⟨ad247, e247, hx247_0⟩ := Kd.at_int HR0.out x5_1 p247 q247
 cases e247
 replace p247 := eq_true p247
 replace q247 := eq_true q247
 go_wp2
 go_roundg k1
 case measure => have := HK1.out; omega
 case rel => exact ⟨(wrap64 (x5_1 + 1)), ef_, H', ⟨by have := HK1.out; omega⟩, by repeat (first | exact Drawn0.refl _ | apply Drawn0.step)⟩
def spec_l03Has.f (k : Nat) (a0_0 : Int) (a0_1 : Int) (l0_2 : List Int) (a1 : Int) : Option (Bool) := (spec_l03Leads.f a0_0 a0_1 a1).bind fun t249 => (if t249 = true then ((spec_l03Find.f k l0_2 a1).bind fun t250 => (some (!t250))) else (some false))
theorem spec_l03Has.mono : ∀ a0 a1 a2 a3 k, LeO (spec_l03Has.f k a0 a1 a2 a3) (spec_l03Has.f (k + 1) a0 a1 a2 a3) := by
 intro a0 a1 a2 a3 k
 unfold spec_l03Has.f
 repeat' (with_reducible first | exact spec_l03Find.mono .. | exact LeO.refl .. | exact LeO.none .. | refine LeO.ite ?_ ?_ | refine LeO.bind ?_ (fun _ => ?_))
theorem spec_l03Has.e0 {P : Prop} (h : P := by
 go_enter Try.func69, Try.ntmps69
 go_wp2_with (first | ((with_reducible refine gate_dst (N := 2) rfl ?_); refine bx_ 2 #[.int .i64 a0_0, .int .i64 a0_1, .slice A0_2 l0_2.length c0_2] 28 ?_; intro gb248 hg w_0 hbox hb; have BK248 := am (hbox); have GW248 := gw_ hg HB; replace HB := h9_ HB hb; clear hb hbox hg; obtain ⟨hcz_0, hcz_1, hcz_2, hfz_0, hfz_1, hfz_2⟩ := cz3_ BK248.out) | ((with_reducible refine gate_callee (f := 90) rfl ?_); refine gm_ (some 8) Try.func90 #[.agg #[.int .i64 a0_0, .int .i64 a0_1], .int .i64 a1] rfl ?_; (with_reducible refine (spec_l03Leads.calls a0_0 a0_1 a1 _ _ A3.out).mono ?_); rintro e w_0 ⟨rfl, hb⟩; refine ⟨_, rfl, ?_⟩; replace BK248 := kb_ BK248 hb; replace HB := h9_ HB hb; (try clear hb); obtain ⟨hcz_0, hcz_1, hcz_2, hfz_0, hfz_1, hfz_2⟩ := cz3_ BK248.out) | (go_at_call 91; (with_reducible refine (spec_l03Find.calls k _ _ l0_2 a1 t250 _ ?side1 HC0_2.out A5.out).mono ?_); (case side1 => exact cb_ HR0_2.out HB.out); rintro e w' ⟨rfl, ⟨nd, rfl⟩⟩))
 go_ret
 exact ⟨fin_, bb_ HB.out⟩) : P := h
theorem spec_l03Has.calls (k : Nat) (a0_0 : Int) (a0_1 : Int) (A0_2 : Option Addr) (c0_2 : Nat) (l0_2 : List Int) (a1 : Int) (r : Bool) (w : World) (hr0_2 : Kd.C (Kd.int .i64) w A0_2 l0_2.length l0_2) (hc0_2 : l0_2.length ≤ c0_2) (h : spec_l03Has.f k a0_0 a0_1 l0_2 a1 = some r) :
  Calls Try.prog 69 #[.agg #[.int .i64 a0_0, .int .i64 a0_1, .slice A0_2 l0_2.length c0_2], .int .i64 a1] w fun e w' => e = .returned (.bool r) ∧ Below w.heap.size w w' := by
 have hu28 := Try.underlying28
 have hu25 := Try.underlying25
 have HR0_2 := am hr0_2
 have HC0_2 := am hc0_2
 clear hr0_2 hc0_2
 have HB := am (Below.refl w.heap.size w)
 have H : ((spec_l03Leads.f a0_0 a0_1 a1).bind fun t249 => (if t249 = true then ((spec_l03Find.f k l0_2 a1).bind fun t250 => (some (!t250))) else (some false))) = some r := h
 clear h
 obtain ⟨t249, A3, H⟩ := bi_ H
 by_cases c4 : t249 = true
 ·subst c4
  rw [if_pos rfl] at H
  obtain ⟨t250, A5, H⟩ := bi_ H
  obtain rfl := Option.some.inj H
  exact spec_l03Has.e0
 ·replace c4 := Bool.eq_false_iff.mpr c4
  subst c4
  rw [if_neg (show ¬ (false = true) by decide)] at H
  obtain rfl := Option.some.inj H
  exact spec_l03Has.e0
end Go.Proofs.Yteiemoooelpdaaa.PFnCreditSum
-- thin
