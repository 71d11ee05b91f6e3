/- The law's functions as plain functions, and their calls. No condition. -/
import Derived.Test.YtimdefbpoddoaaaGreatPFnVerdictsx0
import Derived.Test.YtimdefbpoddoaaaGreatPFnVerdictsx2
import Derived.Test.YtimdefbpoddoaaaGreatPFnVerdictsx18
namespace Go.Proofs.YtimdefbpoddoaaaGreat.PFnVerdicts
open Go.RowKit Go.Proofs.YtimdefbpoddoaaaGreatW.PrintWords Go.Proofs.YtimdefbpoddoaaaGreatW.PrintLast Go.Proofs.YtimdefbpoddoaaaGreatW.PrintMore
attribute [local go_sem] max2_int min2_int max_two min_two max_three min_three max_four min_four
set_option linter.unusedVariables false
set_option maxHeartbeats 8000000
set_option maxRecDepth 100000
set_option linter.unusedSimpArgs false

/-! ### spec_DependsOk: function 60 -/
def spec_DependsOk.l0 : Nat → List (S98) → Int → Option (Bool)
 | 0, _, _ => none
 | k + 1, x0, x3 => if x3 < (x0.length : Int) then (if 0 ≤ x3 then ((spec_l01In.f ((rd_T98 x0 x3).f0) 0 127).bind fun t584 => (if t584 = true then ((spec_l01In.f ((rd_T98 x0 x3).f1) 0 127).bind fun t586 => (if t586 = true then (if x3 > 0 then (if 0 ≤ (wrap64 (x3 - 1)) then (if (wrap64 (x3 - 1)) < (x0.length : Int) then ((spec_l08Less.f ((rd_T98 x0 (wrap64 (x3 - 1))).f0) ((rd_T98 x0 (wrap64 (x3 - 1))).f1) ((rd_T98 x0 x3).f0) ((rd_T98 x0 x3).f1)).bind fun t589 => (if t589 = true then (spec_DependsOk.l0 k x0 (wrap64 (x3 + 1))) else (some false))) else (none)) else (none)) else (spec_DependsOk.l0 k x0 (wrap64 (x3 + 1)))) else (some false))) else (some false))) else (none)) else (some true)
def spec_DependsOk.f (k : Nat) (l0 : List (S98)) : Option (Bool) := spec_DependsOk.l0 k l0 0
theorem spec_DependsOk.mono_l : ∀ k, (∀ y0 y1, LeO (spec_DependsOk.l0 k y0 y1) (spec_DependsOk.l0 (k + 1) y0 y1))
 | 0 => fun _ _ r h => by simp [spec_DependsOk.l0] at h
 | k + 1 => by
  have ih0 := spec_DependsOk.mono_l k
  ·intro y0 y1
   unfold spec_DependsOk.l0
   repeat' (with_reducible first | exact ih0 .. | exact LeO.refl .. | exact LeO.none .. | refine LeO.ite ?_ ?_ | refine LeO.bind ?_ (fun _ => ?_))
theorem spec_DependsOk.mono : ∀ a0 k, LeO (spec_DependsOk.f k a0) (spec_DependsOk.f (k + 1) a0) := by
 intro a0 k
 have ih0 := spec_DependsOk.mono_l k
 unfold spec_DependsOk.f
 repeat' (with_reducible first | exact ih0 .. | exact LeO.refl .. | exact LeO.none .. | refine LeO.ite ?_ ?_ | refine LeO.bind ?_ (fun _ => ?_))
def spec_DependsOk.T4 : Bool × List (List Nat × List Nat) := (true, [([], []), ([], []), ([0, 1], [0, 1]), ([2], [2]), ([3], [3]), ([4], [4]), ([5], [5]), ([6, 5], [6]), ([7], [7]), ([7], [7]), ([8, 9, 7], [7, 8, 9]), ([10, 7], [7, 10]), ([11, 7], [7, 11]), ([12, 7, 7], [7, 12]), ([13, 7], [7, 13]), ([7, 14], [7, 14]), ([15, 13], [15]), ([16], [16]), ([17, 16], [16, 17]), ([18, 16, 16], [16, 18]), ([19], [19]), ([19], [19]), ([21, 19], [19, 21]), ([20, 22, 19], [19, 20, 22]), ([23, 19], [19, 23]), ([19], [19]), ([19], [19]), ([25, 26, 19], [19, 25, 26]), ([27, 19], [19, 27]), ([24, 28, 19, 19], [19, 24, 28]), ([29, 19], [19, 29]), ([19, 30, 16], [16, 19, 30]), ([16, 31], [16, 31])])
def spec_DependsOk.B4 : List Nat := [0, 0, 3, 7, 15, 31, 63, 127, 255, 255, 1023, 2047, 4095, 8191, 16383, 32767, 65535, 131071, 262143, 524287, 1048575, 1048575, 3145727, 8388607, 16777215, 1048575, 1048575, 101711871, 235929599, 536870911, 1073741823, 2147483647, 4294967295]
theorem spec_DependsOk.tab4 : rtab .any (opsOf Tryz.f60 4) = spec_DependsOk.T4 := by kernel_rfl
theorem spec_DependsOk.bits4 : waitsOk spec_DependsOk.T4.2 spec_DependsOk.B4 = true := by kernel_rfl
theorem spec_DependsOk.calls (k : Nat) (A0 : Option Addr) (c0 : Nat) (l0 : List (S98)) (r : Bool) (w : World) (hr0 : Kd.C k98 w A0 l0.length l0) (hc0 : l0.length ≤ c0) (h : spec_DependsOk.f k l0 = some r) :
  Calls Tryz.prog 60 #[.slice A0 l0.length c0] w fun e w' => e = .returned (.bool r) ∧ Below w.heap.size w w' := by
 have hu98 := Tryz.underlying98
 have HR0 := Aside0.mk hr0
 have HC0 := Aside0.mk hc0
 clear hr0 hc0
 have HB := Aside0.mk (Below.refl w.heap.size w)
 have H : (spec_DependsOk.l0 k l0 0) = some r := h
 clear h
 have H' := Aside0.mk H
 clear H
 go_enter Tryz.func60, Tryz.ntmps60
 go_wp2
 go_loopg [3] k (fun kq v3 w' => ∃ (x3_1 : Int), v3 = .int .i64 x3_1 ∧ Aside0 (spec_DependsOk.l0 kq l0 x3_1 = some r) ∧ Aside0 (kq ≤ k) ∧ Aside0 (Below w.heap.size w w'))
 case atStart => exact ⟨(0), ef_, H', ⟨Nat.le_refl _⟩, ⟨bb_ HB.out⟩⟩
 clear H'
 obtain ⟨x3_1, rfl, HA, HK1, HB⟩ := hrel
 obtain _ | k1 := gk
 ·exact absurd HA.out (by simp [spec_DependsOk.l0])
 have H := HA.out
 clear HA
 simp only [spec_DependsOk.l0] at H
 by_cases c2 : x3_1 < (l0.length : Int)
 rotate_left
 ·rw [if_neg c2] at H
  have c2b0 : decide (x3_1 < (l0.length : Int)) = false := decide_eq_false c2
  clear c2
  obtain rfl := Option.some.inj H
  go_wp2
  go_ret
  exact ⟨fin_, bb_ HB.out⟩
 rw [if_pos c2] at H
 have c2b0 : decide (x3_1 < (l0.length : Int)) = true := decide_eq_true c2
 clear c2
 by_cases c3 : 0 ≤ x3_1
 rotate_left
 ·rw [if_neg c3] at H
  exact absurd H (by simp)
 rw [if_pos c3] at H
 have c3b0 : decide (0 ≤ x3_1) = true := decide_eq_true c3
 clear c3
 obtain ⟨t584, A4, H⟩ := bi_ H
 by_cases c5 : t584 = true
 rotate_left
 ·replace c5 := Bool.eq_false_iff.mpr c5
  subst c5
  rw [if_neg (show ¬ (false = true) by decide)] at H
  obtain rfl := Option.some.inj H
  try go_wp2
  replace HB := Aside0.mk (below_drew1 HB.out)
  have p583 : 0 ≤ (x3_1 : Int) := of_decide_eq_true dg_
  have q583 : x3_1 < (l0.length : Int) := of_decide_eq_true dg_
  obtain ⟨ad583, e583, hx583_0, hx583_1⟩ := at_T98 HR0.out x3_1 p583 q583
  have hw583_1 := hx583_1
  have hw583_0 := hx583_0
  cases e583
  replace hx583_0 := hc_ HB hx583_0
  replace hx583_1 := hc_ HB hx583_1
  replace p583 := eq_true p583
  replace q583 := eq_true q583
  refine start_ (n := 33) (S := fun w' => w'.cell? (ad583.add ((x3_1).toNat * 2)) = some (.int .i64 ((rd_T98 l0 x3_1).f0)) ∧ w'.cell? ⟨(ad583.add ((x3_1).toNat * 2)).block, (ad583.add ((x3_1).toNat * 2)).off + 1, none⟩ = some (.int .i64 ((rd_T98 l0 x3_1).f1))) (ds := []) #[false, false, false, false, false, false, false, false, false, false, false, false, false, false, false, false, false, false, false, false, false, false, false, false, false, false, false, false, false, false, false, false, false] (by kernel_rfl) rfl rfl ⟨(hc_ HB hw583_0 :), (hc_ HB hw583_1 :)⟩ (fun hHeld => ?_); refine with_tabW spec_DependsOk.tab4 spec_DependsOk.bits4 (fun HT_ HW_ => ?_)
  generalize wr.drew = w20 at HB hx583_0 hx583_1 hHeld ⊢
  refine pu_ 0 10 (bt_ 33 1) HT_ ?_
  refine pu_ 1 11 (bt_ 33 3) HT_ ?_
  refine pu_ 2 12 (bt_ 33 7) HT_ ?_
  refine pu_ 3 13 (bt_ 33 15) HT_ ?_
  refine take_ (i := 4) (N := some 14) (v := ?_) (a' := ?_) (bt_ 33 31) rfl rfl (take_ofW HT_.out HW_.out (by kernel_rfl)) (fun _ _ _ h => h) (Or.inl ⟨by rfl, ?_⟩) hHeld ?_ ?_
  rotate_left
  ·rintro w' ⟨s0, s1⟩
   go_simp
   with_reducible rfl
  rotate_left
  ·simp only [Act.put, List.setIfInBounds_toArray, List.set_cons_zero, List.set_cons_succ, i64_w, i32_w]
   rfl
  refine one_ (i := 5) (N := some 15) (bt_ 33 63) rfl rfl (one_of HT_.out (by kernel_rfl)) (by decide) (fun K hK => ?_)
  refine goes_ Tryz.func91 (by kernel_rfl) rfl #[.int .i64 ((rd_T98 l0 x3_1).f0), .int .i64 0, .int .i64 127] (by rfl) rfl rfl (by (try simp only [List.map_toArray, List.map_cons, List.map_nil]); first | done | rfl | (simp only [List.length_drop, List.length_take]; rfl)) ?_
  with_reducible refine (spec_l01In.calls ((rd_T98 l0 x3_1).f0) 0 127 false _ A4.out).mono ?_
  rintro e w' ⟨rfl, ⟨nd, rfl⟩⟩
  refine ⟨_, rfl, ?_⟩
  refine hK.out _ _ ⟨(hc_ HB hw583_0 :), (hc_ HB hw583_1 :)⟩ (fun hHeld => ?_)
  clear hK K
  refine norm_ (a' := ?_) ?_ ?_
  rotate_left
  ·show Act.put _ (some 15) _ = _
   simp only [Act.put, List.setIfInBounds_toArray, List.set_cons_zero, List.set_cons_succ, i64_w, i32_w]
   rfl
  refine pu_ 6 16 (bt_ 33 127) HT_ ?_
  refine pu_ 7 17 (bt_ 33 255) HT_ ?_
  refine un_ 8 18 (bt_ 33 511) HT_ ?_
  refine un_ 9 19 (bt_ 33 1023) HT_ ?_
  refine un_ 10 20 (bt_ 33 2047) HT_ ?_
  refine un_ 11 21 (bt_ 33 4095) HT_ ?_
  refine un_ 12 22 (bt_ 33 8191) HT_ ?_
  refine un_ 13 23 (bt_ 33 16383) HT_ ?_
  refine un_ 14 24 (bt_ 33 32767) HT_ ?_
  refine pu_ 15 25 (bt_ 33 65535) HT_ ?_
  refine pu_ 16 26 (bt_ 33 131071) HT_ ?_
  refine un_ 17 27 (bt_ 33 262143) HT_ ?_
  refine un_ 18 28 (bt_ 33 524287) HT_ ?_
  refine un_ 19 29 (bt_ 33 1048575) HT_ ?_
  refine un_ 20 30 (bt_ 33 2097151) HT_ ?_
  refine un_ 21 31 (bt_ 33 4194303) HT_ ?_
  refine un_ 22 32 (bt_ 33 8388607) HT_ ?_
  refine un_ 23 33 (bt_ 33 16777215) HT_ ?_
  refine un_ 24 34 (bt_ 33 33554431) HT_ ?_
  refine un_ 25 35 (bt_ 33 67108863) HT_ ?_
  refine un_ 26 36 (bt_ 33 134217727) HT_ ?_
  refine un_ 27 37 (bt_ 33 268435455) HT_ ?_
  refine un_ 28 38 (bt_ 33 536870911) HT_ ?_
  refine un_ 29 39 (bt_ 33 1073741823) HT_ ?_
  refine un_ 30 40 (bt_ 33 2147483647) HT_ ?_
  refine un_ 31 41 (bt_ 33 4294967295) HT_ ?_
  refine pu_ 32 42 (bt_ 33 8589934591) HT_ ?_
  refine done_ (done_of HT_.out (by kernel_rfl)) ?_
  try go_wp2
  go_ret
  exact ⟨fin_, bb_ HB.out⟩
 subst c5
 rw [if_pos rfl] at H
 obtain ⟨t586, A6, H⟩ := bi_ H
 by_cases c7 : t586 = true
 rotate_left
 ·replace c7 := Bool.eq_false_iff.mpr c7
  subst c7
  rw [if_neg (show ¬ (false = true) by decide)] at H
  obtain rfl := Option.some.inj H
  try go_wp2
  replace HB := Aside0.mk (below_drew1 HB.out)
  have p583 : 0 ≤ (x3_1 : Int) := of_decide_eq_true dg_
  have q583 : x3_1 < (l0.length : Int) := of_decide_eq_true dg_
  obtain ⟨ad583, e583, hx583_0, hx583_1⟩ := at_T98 HR0.out x3_1 p583 q583
  have hw583_1 := hx583_1
  have hw583_0 := hx583_0
  cases e583
  replace hx583_0 := hc_ HB hx583_0
  replace hx583_1 := hc_ HB hx583_1
  replace p583 := eq_true p583
  replace q583 := eq_true q583
  have p585 : 0 ≤ (x3_1 : Int) := of_decide_eq_true dg_
  have q585 : x3_1 < (l0.length : Int) := of_decide_eq_true dg_
  obtain ⟨ad585, e585, hx585_0, hx585_1⟩ := at_T98 HR0.out x3_1 p585 q585
  have hw585_1 := hx585_1
  have hw585_0 := hx585_0
  obtain rfl : ad583 = ad585 := (by injection e585)
  replace hx585_0 := hc_ HB hx585_0
  replace hx585_1 := hc_ HB hx585_1
  replace p585 := eq_true p585
  replace q585 := eq_true q585
  refine start_ (n := 33) (S := fun w' => w'.cell? (ad583.add ((x3_1).toNat * 2)) = some (.int .i64 ((rd_T98 l0 x3_1).f0)) ∧ w'.cell? ⟨(ad583.add ((x3_1).toNat * 2)).block, (ad583.add ((x3_1).toNat * 2)).off + 1, none⟩ = some (.int .i64 ((rd_T98 l0 x3_1).f1)) ∧ w'.cell? (ad583.add ((x3_1).toNat * 2)) = some (.int .i64 ((rd_T98 l0 x3_1).f0)) ∧ w'.cell? ⟨(ad583.add ((x3_1).toNat * 2)).block, (ad583.add ((x3_1).toNat * 2)).off + 1, none⟩ = some (.int .i64 ((rd_T98 l0 x3_1).f1))) (ds := []) #[false, false, false, false, false, false, false, false, false, false, false, false, false, false, false, false, false, false, false, false, false, false, false, false, false, false, false, false, false, false, false, false, false] (by kernel_rfl) rfl rfl ⟨(hc_ HB hw583_0 :), (hc_ HB hw583_1 :), (hc_ HB hw585_0 :), (hc_ HB hw585_1 :)⟩ (fun hHeld => ?_); refine with_tabW spec_DependsOk.tab4 spec_DependsOk.bits4 (fun HT_ HW_ => ?_)
  generalize wr.drew = w19 at HB hx583_0 hx583_1 hx585_0 hx585_1 hHeld ⊢
  refine pu_ 0 10 (bt_ 33 1) HT_ ?_
  refine pu_ 1 11 (bt_ 33 3) HT_ ?_
  refine pu_ 2 12 (bt_ 33 7) HT_ ?_
  refine pu_ 3 13 (bt_ 33 15) HT_ ?_
  refine take_ (i := 4) (N := some 14) (v := ?_) (a' := ?_) (bt_ 33 31) rfl rfl (take_ofW HT_.out HW_.out (by kernel_rfl)) (fun _ _ _ h => h) (Or.inl ⟨by rfl, ?_⟩) hHeld ?_ ?_
  rotate_left
  ·rintro w' ⟨s0, s1, s2, s3⟩
   go_simp
   with_reducible rfl
  rotate_left
  ·simp only [Act.put, List.setIfInBounds_toArray, List.set_cons_zero, List.set_cons_succ, i64_w, i32_w]
   rfl
  refine one_ (i := 5) (N := some 15) (bt_ 33 63) rfl rfl (one_of HT_.out (by kernel_rfl)) (by decide) (fun K hK => ?_)
  refine goes_ Tryz.func91 (by kernel_rfl) rfl #[.int .i64 ((rd_T98 l0 x3_1).f0), .int .i64 0, .int .i64 127] (by rfl) rfl rfl (by (try simp only [List.map_toArray, List.map_cons, List.map_nil]); first | done | rfl | (simp only [List.length_drop, List.length_take]; rfl)) ?_
  with_reducible refine (spec_l01In.calls ((rd_T98 l0 x3_1).f0) 0 127 true _ A4.out).mono ?_
  rintro e w' ⟨rfl, ⟨nd, rfl⟩⟩
  refine ⟨_, rfl, ?_⟩
  refine hK.out _ _ ⟨(hc_ HB hw583_0 :), (hc_ HB hw583_1 :), (hc_ HB hw585_0 :), (hc_ HB hw585_1 :)⟩ (fun hHeld => ?_)
  clear hK K
  refine norm_ (a' := ?_) ?_ ?_
  rotate_left
  ·show Act.put _ (some 15) _ = _
   simp only [Act.put, List.setIfInBounds_toArray, List.set_cons_zero, List.set_cons_succ, i64_w, i32_w]
   rfl
  refine pu_ 6 16 (bt_ 33 127) HT_ ?_
  refine pu_ 7 17 (bt_ 33 255) HT_ ?_
  refine pu_ 8 18 (bt_ 33 511) HT_ ?_
  refine pu_ 9 19 (bt_ 33 1023) HT_ ?_
  refine pu_ 10 20 (bt_ 33 2047) HT_ ?_
  refine pu_ 11 21 (bt_ 33 4095) HT_ ?_
  refine take_ (i := 12) (N := some 22) (v := ?_) (a' := ?_) (bt_ 33 8191) rfl rfl (take_ofW HT_.out HW_.out (by kernel_rfl)) (fun _ _ _ h => h) (Or.inl ⟨by rfl, ?_⟩) hHeld ?_ ?_
  rotate_left
  ·rintro w' ⟨s0, s1, s2, s3⟩
   go_simp
   with_reducible rfl
  rotate_left
  ·simp only [Act.put, List.setIfInBounds_toArray, List.set_cons_zero, List.set_cons_succ, i64_w, i32_w]
   rfl
  refine one_ (i := 13) (N := some 23) (bt_ 33 16383) rfl rfl (one_of HT_.out (by kernel_rfl)) (by decide) (fun K hK => ?_)
  refine goes_ Tryz.func91 (by kernel_rfl) rfl #[.int .i64 ((rd_T98 l0 x3_1).f1), .int .i64 0, .int .i64 127] (by rfl) rfl rfl (by (try simp only [List.map_toArray, List.map_cons, List.map_nil]); first | done | rfl | (simp only [List.length_drop, List.length_take]; rfl)) ?_
  with_reducible refine (spec_l01In.calls ((rd_T98 l0 x3_1).f1) 0 127 false _ A6.out).mono ?_
  rintro e w' ⟨rfl, ⟨nd, rfl⟩⟩
  refine ⟨_, rfl, ?_⟩
  refine hK.out _ _ ⟨(hc_ HB hw583_0 :), (hc_ HB hw583_1 :), (hc_ HB hw585_0 :), (hc_ HB hw585_1 :)⟩ (fun hHeld => ?_)
  clear hK K
  refine norm_ (a' := ?_) ?_ ?_
  rotate_left
  ·show Act.put _ (some 23) _ = _
   simp only [Act.put, List.setIfInBounds_toArray, List.set_cons_zero, List.set_cons_succ, i64_w, i32_w]
   rfl
  refine pu_ 14 24 (bt_ 33 32767) HT_ ?_
  refine pu_ 15 25 (bt_ 33 65535) HT_ ?_
  refine pu_ 16 26 (bt_ 33 131071) HT_ ?_
  refine un_ 17 27 (bt_ 33 262143) HT_ ?_
  refine un_ 18 28 (bt_ 33 524287) HT_ ?_
  refine un_ 19 29 (bt_ 33 1048575) HT_ ?_
  refine un_ 20 30 (bt_ 33 2097151) HT_ ?_
  refine un_ 21 31 (bt_ 33 4194303) HT_ ?_
  refine un_ 22 32 (bt_ 33 8388607) HT_ ?_
  refine un_ 23 33 (bt_ 33 16777215) HT_ ?_
  refine un_ 24 34 (bt_ 33 33554431) HT_ ?_
  refine un_ 25 35 (bt_ 33 67108863) HT_ ?_
  refine un_ 26 36 (bt_ 33 134217727) HT_ ?_
  refine un_ 27 37 (bt_ 33 268435455) HT_ ?_
  refine un_ 28 38 (bt_ 33 536870911) HT_ ?_
  refine un_ 29 39 (bt_ 33 1073741823) HT_ ?_
  refine un_ 30 40 (bt_ 33 2147483647) HT_ ?_
  refine un_ 31 41 (bt_ 33 4294967295) HT_ ?_
  refine pu_ 32 42 (bt_ 33 8589934591) HT_ ?_
  refine done_ (done_of HT_.out (by kernel_rfl)) ?_
  try go_wp2
  go_ret
  exact ⟨fin_, bb_ HB.out⟩
 subst c7
 rw [if_pos rfl] at H
 by_cases c8 : x3_1 > 0
 rotate_left
 ·rw [if_neg c8] at H
  have c8b0 : decide (0 < x3_1) = false := decide_eq_false c8
  clear c8
  have H' := Aside0.mk H
  clear H
  try go_wp2
  replace HB := Aside0.mk (below_drew1 HB.out)
  have p583 : 0 ≤ (x3_1 : Int) := of_decide_eq_true dg_
  have q583 : x3_1 < (l0.length : Int) := of_decide_eq_true dg_
  obtain ⟨ad583, e583, hx583_0, hx583_1⟩ := at_T98 HR0.out x3_1 p583 q583
  have hw583_1 := hx583_1
  have hw583_0 := hx583_0
  cases e583
  replace hx583_0 := hc_ HB hx583_0
  replace hx583_1 := hc_ HB hx583_1
  replace p583 := eq_true p583
  replace q583 := eq_true q583
  have p585 : 0 ≤ (x3_1 : Int) := of_decide_eq_true dg_
  have q585 : x3_1 < (l0.length : Int) := of_decide_eq_true dg_
  obtain ⟨ad585, e585, hx585_0, hx585_1⟩ := at_T98 HR0.out x3_1 p585 q585
  have hw585_1 := hx585_1
  have hw585_0 := hx585_0
  obtain rfl : ad583 = ad585 := (by injection e585)
  replace hx585_0 := hc_ HB hx585_0
  replace hx585_1 := hc_ HB hx585_1
  replace p585 := eq_true p585
  replace q585 := eq_true q585
  refine start_ (n := 33) (S := fun w' => w'.cell? (ad583.add ((x3_1).toNat * 2)) = some (.int .i64 ((rd_T98 l0 x3_1).f0)) ∧ w'.cell? ⟨(ad583.add ((x3_1).toNat * 2)).block, (ad583.add ((x3_1).toNat * 2)).off + 1, none⟩ = some (.int .i64 ((rd_T98 l0 x3_1).f1)) ∧ w'.cell? (ad583.add ((x3_1).toNat * 2)) = some (.int .i64 ((rd_T98 l0 x3_1).f0)) ∧ w'.cell? ⟨(ad583.add ((x3_1).toNat * 2)).block, (ad583.add ((x3_1).toNat * 2)).off + 1, none⟩ = some (.int .i64 ((rd_T98 l0 x3_1).f1))) (ds := []) #[false, false, false, false, false, false, false, false, false, false, false, false, false, false, false, false, false, false, false, false, false, false, false, false, false, false, false, false, false, false, false, false, false] (by kernel_rfl) rfl rfl ⟨(hc_ HB hw583_0 :), (hc_ HB hw583_1 :), (hc_ HB hw585_0 :), (hc_ HB hw585_1 :)⟩ (fun hHeld => ?_); refine with_tabW spec_DependsOk.tab4 spec_DependsOk.bits4 (fun HT_ HW_ => ?_)
  generalize wr.drew = w18 at HB hx583_0 hx583_1 hx585_0 hx585_1 hHeld ⊢
  refine pu_ 0 10 (bt_ 33 1) HT_ ?_
  refine pu_ 1 11 (bt_ 33 3) HT_ ?_
  refine pu_ 2 12 (bt_ 33 7) HT_ ?_
  refine pu_ 3 13 (bt_ 33 15) HT_ ?_
  refine take_ (i := 4) (N := some 14) (v := ?_) (a' := ?_) (bt_ 33 31) rfl rfl (take_ofW HT_.out HW_.out (by kernel_rfl)) (fun _ _ _ h => h) (Or.inl ⟨by rfl, ?_⟩) hHeld ?_ ?_
  rotate_left
  ·rintro w' ⟨s0, s1, s2, s3⟩
   go_simp
   with_reducible rfl
  rotate_left
  ·simp only [Act.put, List.setIfInBounds_toArray, List.set_cons_zero, List.set_cons_succ, i64_w, i32_w]
   rfl
  refine one_ (i := 5) (N := some 15) (bt_ 33 63) rfl rfl (one_of HT_.out (by kernel_rfl)) (by decide) (fun K hK => ?_)
  refine goes_ Tryz.func91 (by kernel_rfl) rfl #[.int .i64 ((rd_T98 l0 x3_1).f0), .int .i64 0, .int .i64 127] (by rfl) rfl rfl (by (try simp only [List.map_toArray, List.map_cons, List.map_nil]); first | done | rfl | (simp only [List.length_drop, List.length_take]; rfl)) ?_
  with_reducible refine (spec_l01In.calls ((rd_T98 l0 x3_1).f0) 0 127 true _ A4.out).mono ?_
  rintro e w' ⟨rfl, ⟨nd, rfl⟩⟩
  refine ⟨_, rfl, ?_⟩
  refine hK.out _ _ ⟨(hc_ HB hw583_0 :), (hc_ HB hw583_1 :), (hc_ HB hw585_0 :), (hc_ HB hw585_1 :)⟩ (fun hHeld => ?_)
  clear hK K
  refine norm_ (a' := ?_) ?_ ?_
  rotate_left
  ·show Act.put _ (some 15) _ = _
   simp only [Act.put, List.setIfInBounds_toArray, List.set_cons_zero, List.set_cons_succ, i64_w, i32_w]
   rfl
  refine pu_ 6 16 (bt_ 33 127) HT_ ?_
  refine pu_ 7 17 (bt_ 33 255) HT_ ?_
  refine pu_ 8 18 (bt_ 33 511) HT_ ?_
  refine pu_ 9 19 (bt_ 33 1023) HT_ ?_
  refine pu_ 10 20 (bt_ 33 2047) HT_ ?_
  refine pu_ 11 21 (bt_ 33 4095) HT_ ?_
  refine take_ (i := 12) (N := some 22) (v := ?_) (a' := ?_) (bt_ 33 8191) rfl rfl (take_ofW HT_.out HW_.out (by kernel_rfl)) (fun _ _ _ h => h) (Or.inl ⟨by rfl, ?_⟩) hHeld ?_ ?_
  rotate_left
  ·rintro w' ⟨s0, s1, s2, s3⟩
   go_simp
   with_reducible rfl
  rotate_left
  ·simp only [Act.put, List.setIfInBounds_toArray, List.set_cons_zero, List.set_cons_succ, i64_w, i32_w]
   rfl
  refine one_ (i := 13) (N := some 23) (bt_ 33 16383) rfl rfl (one_of HT_.out (by kernel_rfl)) (by decide) (fun K hK => ?_)
  refine goes_ Tryz.func91 (by kernel_rfl) rfl #[.int .i64 ((rd_T98 l0 x3_1).f1), .int .i64 0, .int .i64 127] (by rfl) rfl rfl (by (try simp only [List.map_toArray, List.map_cons, List.map_nil]); first | done | rfl | (simp only [List.length_drop, List.length_take]; rfl)) ?_
  with_reducible refine (spec_l01In.calls ((rd_T98 l0 x3_1).f1) 0 127 true _ A6.out).mono ?_
  rintro e w' ⟨rfl, ⟨nd, rfl⟩⟩
  refine ⟨_, rfl, ?_⟩
  refine hK.out _ _ ⟨(hc_ HB hw583_0 :), (hc_ HB hw583_1 :), (hc_ HB hw585_0 :), (hc_ HB hw585_1 :)⟩ (fun hHeld => ?_)
  clear hK K
  refine norm_ (a' := ?_) ?_ ?_
  rotate_left
  ·show Act.put _ (some 23) _ = _
   simp only [Act.put, List.setIfInBounds_toArray, List.set_cons_zero, List.set_cons_succ, i64_w, i32_w]
   rfl
  refine pu_ 14 24 (bt_ 33 32767) HT_ ?_
  refine pu_ 15 25 (bt_ 33 65535) HT_ ?_
  refine pu_ 16 26 (bt_ 33 131071) HT_ ?_
  refine pu_ 17 27 (bt_ 33 262143) HT_ ?_
  refine pu_ 18 28 (bt_ 33 524287) HT_ ?_
  refine pu_ 19 29 (bt_ 33 1048575) HT_ ?_
  refine un_ 20 30 (bt_ 33 2097151) HT_ ?_
  refine un_ 21 31 (bt_ 33 4194303) HT_ ?_
  refine un_ 22 32 (bt_ 33 8388607) HT_ ?_
  refine un_ 23 33 (bt_ 33 16777215) HT_ ?_
  refine un_ 24 34 (bt_ 33 33554431) HT_ ?_
  refine un_ 25 35 (bt_ 33 67108863) HT_ ?_
  refine un_ 26 36 (bt_ 33 134217727) HT_ ?_
  refine un_ 27 37 (bt_ 33 268435455) HT_ ?_
  refine un_ 28 38 (bt_ 33 536870911) HT_ ?_
  refine un_ 29 39 (bt_ 33 1073741823) HT_ ?_
  refine un_ 30 40 (bt_ 33 2147483647) HT_ ?_
  refine pu_ 31 41 (bt_ 33 4294967295) HT_ ?_
  refine pu_ 32 42 (bt_ 33 8589934591) HT_ ?_
  refine done_ (done_of HT_.out (by kernel_rfl)) ?_
  try go_wp2
  go_roundg k1
  case measure => have := HK1.out; omega
  case rel => exact ⟨(wrap64 (x3_1 + 1)), ef_, H', ⟨by have := HK1.out; omega⟩, ⟨bb_ HB.out⟩⟩
 rw [if_pos c8] at H
 have c8b0 : decide (0 < x3_1) = true := decide_eq_true c8
 clear c8
 obtain ⟨ji9, hji9⟩ : ∃ j_ : Int, (wrap64 (x3_1 - 1)) = j_ := ⟨_, rfl⟩
 replace H : (if 0 ≤ (ji9) then (if (ji9) < (l0.length : Int) then ((spec_l08Less.f ((rd_T98 l0 (ji9)).f0) ((rd_T98 l0 (ji9)).f1) ((rd_T98 l0 x3_1).f0) ((rd_T98 l0 x3_1).f1)).bind fun t589 => (if t589 = true then (spec_DependsOk.l0 k1 l0 (wrap64 (x3_1 + 1))) else (some false))) else (none)) else (none)) = some r := by first | (rw [hji9] at H; exact H) | (simp only [hji9] at H ⊢; exact H)
 (try rw [hji9] at A4)
 (try rw [hji9] at A6)
 have hji9w : (IntKind.i64.wrap (x3_1 - 1)) = ji9 := (i64_w _).trans hji9
 by_cases c10 : 0 ≤ (ji9)
 rotate_left
 ·rw [if_neg c10] at H
  exact absurd H (by simp)
 rw [if_pos c10] at H
 have c10b0 : decide (0 ≤ (ji9)) = true := decide_eq_true c10
 clear c10
 by_cases c11 : (ji9) < (l0.length : Int)
 rotate_left
 ·rw [if_neg c11] at H
  exact absurd H (by simp)
 rw [if_pos c11] at H
 have c11b0 : decide ((ji9) < (l0.length : Int)) = true := decide_eq_true c11
 clear c11
 obtain ⟨t589, A12, H⟩ := bi_ H
 by_cases c13 : t589 = true
 ·subst c13
  rw [if_pos rfl] at H
  have H' := Aside0.mk H
  clear H
  try go_wp2
  replace HB := Aside0.mk (below_drew1 HB.out)
  have p583 : 0 ≤ (x3_1 : Int) := of_decide_eq_true dg_
  have q583 : x3_1 < (l0.length : Int) := of_decide_eq_true dg_
  obtain ⟨ad583, e583, hx583_0, hx583_1⟩ := at_T98 HR0.out x3_1 p583 q583
  have hw583_1 := hx583_1
  have hw583_0 := hx583_0
  cases e583
  replace hx583_0 := hc_ HB hx583_0
  replace hx583_1 := hc_ HB hx583_1
  replace p583 := eq_true p583
  replace q583 := eq_true q583
  have p585 : 0 ≤ (x3_1 : Int) := of_decide_eq_true dg_
  have q585 : x3_1 < (l0.length : Int) := of_decide_eq_true dg_
  obtain ⟨ad585, e585, hx585_0, hx585_1⟩ := at_T98 HR0.out x3_1 p585 q585
  have hw585_1 := hx585_1
  have hw585_0 := hx585_0
  obtain rfl : ad583 = ad585 := (by injection e585)
  replace hx585_0 := hc_ HB hx585_0
  replace hx585_1 := hc_ HB hx585_1
  replace p585 := eq_true p585
  replace q585 := eq_true q585
  have p587 : 0 ≤ ((ji9) : Int) := of_decide_eq_true dg_
  have q587 : (ji9) < (l0.length : Int) := of_decide_eq_true dg_
  obtain ⟨ad587, e587, hx587_0, hx587_1⟩ := at_T98 HR0.out (ji9) p587 q587
  have hw587_1 := hx587_1
  have hw587_0 := hx587_0
  obtain rfl : ad583 = ad587 := (by injection e587)
  replace hx587_0 := hc_ HB hx587_0
  replace hx587_1 := hc_ HB hx587_1
  replace p587 := eq_true p587
  replace q587 := eq_true q587
  have p588 : 0 ≤ (x3_1 : Int) := of_decide_eq_true dg_
  have q588 : x3_1 < (l0.length : Int) := of_decide_eq_true dg_
  obtain ⟨ad588, e588, hx588_0, hx588_1⟩ := at_T98 HR0.out x3_1 p588 q588
  have hw588_1 := hx588_1
  have hw588_0 := hx588_0
  obtain rfl : ad583 = ad588 := (by injection e588)
  replace hx588_0 := hc_ HB hx588_0
  replace hx588_1 := hc_ HB hx588_1
  replace p588 := eq_true p588
  replace q588 := eq_true q588
  refine start_ (n := 33) (S := fun w' => w'.cell? (ad583.add ((x3_1).toNat * 2)) = some (.int .i64 ((rd_T98 l0 x3_1).f0)) ∧ w'.cell? ⟨(ad583.add ((x3_1).toNat * 2)).block, (ad583.add ((x3_1).toNat * 2)).off + 1, none⟩ = some (.int .i64 ((rd_T98 l0 x3_1).f1)) ∧ w'.cell? (ad583.add ((x3_1).toNat * 2)) = some (.int .i64 ((rd_T98 l0 x3_1).f0)) ∧ w'.cell? ⟨(ad583.add ((x3_1).toNat * 2)).block, (ad583.add ((x3_1).toNat * 2)).off + 1, none⟩ = some (.int .i64 ((rd_T98 l0 x3_1).f1)) ∧ w'.cell? (ad583.add (((ji9)).toNat * 2)) = some (.int .i64 ((rd_T98 l0 (ji9)).f0)) ∧ w'.cell? ⟨(ad583.add (((ji9)).toNat * 2)).block, (ad583.add (((ji9)).toNat * 2)).off + 1, none⟩ = some (.int .i64 ((rd_T98 l0 (ji9)).f1)) ∧ w'.cell? (ad583.add ((x3_1).toNat * 2)) = some (.int .i64 ((rd_T98 l0 x3_1).f0)) ∧ w'.cell? ⟨(ad583.add ((x3_1).toNat * 2)).block, (ad583.add ((x3_1).toNat * 2)).off + 1, none⟩ = some (.int .i64 ((rd_T98 l0 x3_1).f1))) (ds := []) #[false, false, false, false, false, false, false, false, false, false, false, false, false, false, false, false, false, false, false, false, false, false, false, false, false, false, false, false, false, false, false, false, false] (by kernel_rfl) rfl rfl ⟨(hc_ HB hw583_0 :), (hc_ HB hw583_1 :), (hc_ HB hw585_0 :), (hc_ HB hw585_1 :), (hc_ HB hw587_0 :), (hc_ HB hw587_1 :), (hc_ HB hw588_0 :), (hc_ HB hw588_1 :)⟩ (fun hHeld => ?_); refine with_tabW spec_DependsOk.tab4 spec_DependsOk.bits4 (fun HT_ HW_ => ?_)
  generalize wr.drew = w14 at HB hx583_0 hx583_1 hx585_0 hx585_1 hx587_0 hx587_1 hx588_0 hx588_1 hHeld ⊢
  refine pu_ 0 10 (bt_ 33 1) HT_ ?_
  refine pu_ 1 11 (bt_ 33 3) HT_ ?_
  refine pu_ 2 12 (bt_ 33 7) HT_ ?_
  refine pu_ 3 13 (bt_ 33 15) HT_ ?_
  refine take_ (i := 4) (N := some 14) (v := ?_) (a' := ?_) (bt_ 33 31) rfl rfl (take_ofW HT_.out HW_.out (by kernel_rfl)) (fun _ _ _ h => h) (Or.inl ⟨by rfl, ?_⟩) hHeld ?_ ?_
  rotate_left
  ·rintro w' ⟨s0, s1, s2, s3, s4, s5, s6, s7⟩
   go_simp
   with_reducible rfl
  rotate_left
  ·simp only [Act.put, List.setIfInBounds_toArray, List.set_cons_zero, List.set_cons_succ, i64_w, i32_w]
   rfl
  refine one_ (i := 5) (N := some 15) (bt_ 33 63) rfl rfl (one_of HT_.out (by kernel_rfl)) (by decide) (fun K hK => ?_)
  refine goes_ Tryz.func91 (by kernel_rfl) rfl #[.int .i64 ((rd_T98 l0 x3_1).f0), .int .i64 0, .int .i64 127] (by rfl) rfl rfl (by (try simp only [List.map_toArray, List.map_cons, List.map_nil]); first | done | rfl | (simp only [List.length_drop, List.length_take]; rfl)) ?_
  with_reducible refine (spec_l01In.calls ((rd_T98 l0 x3_1).f0) 0 127 true _ A4.out).mono ?_
  rintro e w' ⟨rfl, ⟨nd, rfl⟩⟩
  refine ⟨_, rfl, ?_⟩
  refine hK.out _ _ ⟨(hc_ HB hw583_0 :), (hc_ HB hw583_1 :), (hc_ HB hw585_0 :), (hc_ HB hw585_1 :), (hc_ HB hw587_0 :), (hc_ HB hw587_1 :), (hc_ HB hw588_0 :), (hc_ HB hw588_1 :)⟩ (fun hHeld => ?_)
  clear hK K
  refine norm_ (a' := ?_) ?_ ?_
  rotate_left
  ·show Act.put _ (some 15) _ = _
   simp only [Act.put, List.setIfInBounds_toArray, List.set_cons_zero, List.set_cons_succ, i64_w, i32_w]
   rfl
  refine pu_ 6 16 (bt_ 33 127) HT_ ?_
  refine pu_ 7 17 (bt_ 33 255) HT_ ?_
  refine pu_ 8 18 (bt_ 33 511) HT_ ?_
  refine pu_ 9 19 (bt_ 33 1023) HT_ ?_
  refine pu_ 10 20 (bt_ 33 2047) HT_ ?_
  refine pu_ 11 21 (bt_ 33 4095) HT_ ?_
  refine take_ (i := 12) (N := some 22) (v := ?_) (a' := ?_) (bt_ 33 8191) rfl rfl (take_ofW HT_.out HW_.out (by kernel_rfl)) (fun _ _ _ h => h) (Or.inl ⟨by rfl, ?_⟩) hHeld ?_ ?_
  rotate_left
  ·rintro w' ⟨s0, s1, s2, s3, s4, s5, s6, s7⟩
   go_simp
   with_reducible rfl
  rotate_left
  ·simp only [Act.put, List.setIfInBounds_toArray, List.set_cons_zero, List.set_cons_succ, i64_w, i32_w]
   rfl
  refine one_ (i := 13) (N := some 23) (bt_ 33 16383) rfl rfl (one_of HT_.out (by kernel_rfl)) (by decide) (fun K hK => ?_)
  refine goes_ Tryz.func91 (by kernel_rfl) rfl #[.int .i64 ((rd_T98 l0 x3_1).f1), .int .i64 0, .int .i64 127] (by rfl) rfl rfl (by (try simp only [List.map_toArray, List.map_cons, List.map_nil]); first | done | rfl | (simp only [List.length_drop, List.length_take]; rfl)) ?_
  with_reducible refine (spec_l01In.calls ((rd_T98 l0 x3_1).f1) 0 127 true _ A6.out).mono ?_
  rintro e w' ⟨rfl, ⟨nd, rfl⟩⟩
  refine ⟨_, rfl, ?_⟩
  refine hK.out _ _ ⟨(hc_ HB hw583_0 :), (hc_ HB hw583_1 :), (hc_ HB hw585_0 :), (hc_ HB hw585_1 :), (hc_ HB hw587_0 :), (hc_ HB hw587_1 :), (hc_ HB hw588_0 :), (hc_ HB hw588_1 :)⟩ (fun hHeld => ?_)
  clear hK K
  refine norm_ (a' := ?_) ?_ ?_
  rotate_left
  ·show Act.put _ (some 23) _ = _
   simp only [Act.put, List.setIfInBounds_toArray, List.set_cons_zero, List.set_cons_succ, i64_w, i32_w]
   rfl
  refine pu_ 14 24 (bt_ 33 32767) HT_ ?_
  refine pu_ 15 25 (bt_ 33 65535) HT_ ?_
  refine pu_ 16 26 (bt_ 33 131071) HT_ ?_
  refine pu_ 17 27 (bt_ 33 262143) HT_ ?_
  refine pu_ 18 28 (bt_ 33 524287) HT_ ?_
  refine pu_ 19 29 (bt_ 33 1048575) HT_ ?_
  refine pu_ 20 30 (bt_ 33 2097151) HT_ ?_
  refine pu_ 21 31 (bt_ 33 4194303) HT_ ?_
  refine pu_ 22 32 (bt_ 33 8388607) HT_ ?_
  refine pu_ 23 33 (bt_ 33 16777215) HT_ ?_
  refine pu_ 25 35 (bt_ 33 50331647) HT_ ?_
  refine pu_ 26 36 (bt_ 33 117440511) HT_ ?_
  refine pu_ 27 37 (bt_ 33 251658239) HT_ ?_
  refine take_ (i := 24) (N := some 34) (v := ?_) (a' := ?_) (bt_ 33 268435455) rfl rfl (take_ofW HT_.out HW_.out (by kernel_rfl)) (fun _ _ _ h => h) (Or.inl ⟨by rfl, ?_⟩) hHeld ?_ ?_
  rotate_left
  ·rintro w' ⟨s0, s1, s2, s3, s4, s5, s6, s7⟩
   go_simp
   with_reducible rfl
  rotate_left
  ·simp only [Act.put, List.setIfInBounds_toArray, List.set_cons_zero, List.set_cons_succ, i64_w, i32_w]
   rfl
  refine take_ (i := 28) (N := some 38) (v := ?_) (a' := ?_) (bt_ 33 536870911) rfl rfl (take_ofW HT_.out HW_.out (by kernel_rfl)) (fun _ _ _ h => h) (Or.inl ⟨by rfl, ?_⟩) hHeld ?_ ?_
  rotate_left
  ·rintro w' ⟨s0, s1, s2, s3, s4, s5, s6, s7⟩
   go_simp
   with_reducible rfl
  rotate_left
  ·simp only [Act.put, List.setIfInBounds_toArray, List.set_cons_zero, List.set_cons_succ, i64_w, i32_w]
   rfl
  refine one_ (i := 29) (N := some 39) (bt_ 33 1073741823) rfl rfl (one_of HT_.out (by kernel_rfl)) (by decide) (fun K hK => ?_)
  refine goes_ Tryz.func92 (by kernel_rfl) rfl #[.agg #[.int .i64 ((rd_T98 l0 (ji9)).f0), .int .i64 ((rd_T98 l0 (ji9)).f1)], .agg #[.int .i64 ((rd_T98 l0 x3_1).f0), .int .i64 ((rd_T98 l0 x3_1).f1)]] (by rfl) rfl rfl (by (try simp only [List.map_toArray, List.map_cons, List.map_nil]); first | done | (simp only [hji9]; rfl) | rfl | (simp only [List.length_drop, List.length_take]; rfl)) ?_
  with_reducible refine (spec_l08Less.calls ((rd_T98 l0 (ji9)).f0) ((rd_T98 l0 (ji9)).f1) ((rd_T98 l0 x3_1).f0) ((rd_T98 l0 x3_1).f1) true _ A12.out).mono ?_
  rintro e w15 ⟨rfl, hb⟩
  refine ⟨_, rfl, ?_⟩
  replace HB := hs_ HB hb
  (try clear hb)
  refine hK.out _ _ ⟨(hc_ HB hw583_0 :), (hc_ HB hw583_1 :), (hc_ HB hw585_0 :), (hc_ HB hw585_1 :), (hc_ HB hw587_0 :), (hc_ HB hw587_1 :), (hc_ HB hw588_0 :), (hc_ HB hw588_1 :)⟩ (fun hHeld => ?_)
  clear hK K
  refine norm_ (a' := ?_) ?_ ?_
  rotate_left
  ·show Act.put _ (some 39) _ = _
   simp only [Act.put, List.setIfInBounds_toArray, List.set_cons_zero, List.set_cons_succ, i64_w, i32_w]
   rfl
  refine pu_ 30 40 (bt_ 33 2147483647) HT_ ?_
  refine pu_ 31 41 (bt_ 33 4294967295) HT_ ?_
  refine pu_ 32 42 (bt_ 33 8589934591) HT_ ?_
  refine done_ (done_of HT_.out (by kernel_rfl)) ?_
  try go_wp2
  go_roundg k1
  case measure => have := HK1.out; omega
  case rel => exact ⟨(wrap64 (x3_1 + 1)), ef_, H', ⟨by have := HK1.out; omega⟩, ⟨bb_ HB.out⟩⟩
 replace c13 := Bool.eq_false_iff.mpr c13
 subst c13
 rw [if_neg (show ¬ (false = true) by decide)] at H
 obtain rfl := Option.some.inj H
 try go_wp2
 replace HB := Aside0.mk (below_drew1 HB.out)
 have p583 : 0 ≤ (x3_1 : Int) := of_decide_eq_true dg_
 have q583 : x3_1 < (l0.length : Int) := of_decide_eq_true dg_
 obtain ⟨ad583, e583, hx583_0, hx583_1⟩ := at_T98 HR0.out x3_1 p583 q583
 have hw583_1 := hx583_1
 have hw583_0 := hx583_0
 cases e583
 replace hx583_0 := hc_ HB hx583_0
 replace hx583_1 := hc_ HB hx583_1
 replace p583 := eq_true p583
 replace q583 := eq_true q583
 have p585 : 0 ≤ (x3_1 : Int) := of_decide_eq_true dg_
 have q585 : x3_1 < (l0.length : Int) := of_decide_eq_true dg_
 obtain ⟨ad585, e585, hx585_0, hx585_1⟩ := at_T98 HR0.out x3_1 p585 q585
 have hw585_1 := hx585_1
 have hw585_0 := hx585_0
 obtain rfl : ad583 = ad585 := (by injection e585)
 replace hx585_0 := hc_ HB hx585_0
 replace hx585_1 := hc_ HB hx585_1
 replace p585 := eq_true p585
 replace q585 := eq_true q585
 have p587 : 0 ≤ ((ji9) : Int) := of_decide_eq_true dg_
 have q587 : (ji9) < (l0.length : Int) := of_decide_eq_true dg_
 obtain ⟨ad587, e587, hx587_0, hx587_1⟩ := at_T98 HR0.out (ji9) p587 q587
 have hw587_1 := hx587_1
 have hw587_0 := hx587_0
 obtain rfl : ad583 = ad587 := (by injection e587)
 replace hx587_0 := hc_ HB hx587_0
 replace hx587_1 := hc_ HB hx587_1
 replace p587 := eq_true p587
 replace q587 := eq_true q587
 have p588 : 0 ≤ (x3_1 : Int) := of_decide_eq_true dg_
 have q588 : x3_1 < (l0.length : Int) := of_decide_eq_true dg_
 obtain ⟨ad588, e588, hx588_0, hx588_1⟩ := at_T98 HR0.out x3_1 p588 q588
 have hw588_1 := hx588_1
 have hw588_0 := hx588_0
 obtain rfl : ad583 = ad588 := (by injection e588)
 replace hx588_0 := hc_ HB hx588_0
 replace hx588_1 := hc_ HB hx588_1
 replace p588 := eq_true p588
 replace q588 := eq_true q588
 refine start_ (n := 33) (S := fun w' => w'.cell? (ad583.add ((x3_1).toNat * 2)) = some (.int .i64 ((rd_T98 l0 x3_1).f0)) ∧ w'.cell? ⟨(ad583.add ((x3_1).toNat * 2)).block, (ad583.add ((x3_1).toNat * 2)).off + 1, none⟩ = some (.int .i64 ((rd_T98 l0 x3_1).f1)) ∧ w'.cell? (ad583.add ((x3_1).toNat * 2)) = some (.int .i64 ((rd_T98 l0 x3_1).f0)) ∧ w'.cell? ⟨(ad583.add ((x3_1).toNat * 2)).block, (ad583.add ((x3_1).toNat * 2)).off + 1, none⟩ = some (.int .i64 ((rd_T98 l0 x3_1).f1)) ∧ w'.cell? (ad583.add (((ji9)).toNat * 2)) = some (.int .i64 ((rd_T98 l0 (ji9)).f0)) ∧ w'.cell? ⟨(ad583.add (((ji9)).toNat * 2)).block, (ad583.add (((ji9)).toNat * 2)).off + 1, none⟩ = some (.int .i64 ((rd_T98 l0 (ji9)).f1)) ∧ w'.cell? (ad583.add ((x3_1).toNat * 2)) = some (.int .i64 ((rd_T98 l0 x3_1).f0)) ∧ w'.cell? ⟨(ad583.add ((x3_1).toNat * 2)).block, (ad583.add ((x3_1).toNat * 2)).off + 1, none⟩ = some (.int .i64 ((rd_T98 l0 x3_1).f1))) (ds := []) #[false, false, false, false, false, false, false, false, false, false, false, false, false, false, false, false, false, false, false, false, false, false, false, false, false, false, false, false, false, false, false, false, false] (by kernel_rfl) rfl rfl ⟨(hc_ HB hw583_0 :), (hc_ HB hw583_1 :), (hc_ HB hw585_0 :), (hc_ HB hw585_1 :), (hc_ HB hw587_0 :), (hc_ HB hw587_1 :), (hc_ HB hw588_0 :), (hc_ HB hw588_1 :)⟩ (fun hHeld => ?_); refine with_tabW spec_DependsOk.tab4 spec_DependsOk.bits4 (fun HT_ HW_ => ?_)
 generalize wr.drew = w16 at HB hx583_0 hx583_1 hx585_0 hx585_1 hx587_0 hx587_1 hx588_0 hx588_1 hHeld ⊢
 refine pu_ 0 10 (bt_ 33 1) HT_ ?_
 refine pu_ 1 11 (bt_ 33 3) HT_ ?_
 refine pu_ 2 12 (bt_ 33 7) HT_ ?_
 refine pu_ 3 13 (bt_ 33 15) HT_ ?_
 refine take_ (i := 4) (N := some 14) (v := ?_) (a' := ?_) (bt_ 33 31) rfl rfl (take_ofW HT_.out HW_.out (by kernel_rfl)) (fun _ _ _ h => h) (Or.inl ⟨by rfl, ?_⟩) hHeld ?_ ?_
 rotate_left
 ·rintro w' ⟨s0, s1, s2, s3, s4, s5, s6, s7⟩
  go_simp
  with_reducible rfl
 rotate_left
 ·simp only [Act.put, List.setIfInBounds_toArray, List.set_cons_zero, List.set_cons_succ, i64_w, i32_w]
  rfl
 refine one_ (i := 5) (N := some 15) (bt_ 33 63) rfl rfl (one_of HT_.out (by kernel_rfl)) (by decide) (fun K hK => ?_)
 refine goes_ Tryz.func91 (by kernel_rfl) rfl #[.int .i64 ((rd_T98 l0 x3_1).f0), .int .i64 0, .int .i64 127] (by rfl) rfl rfl (by (try simp only [List.map_toArray, List.map_cons, List.map_nil]); first | done | rfl | (simp only [List.length_drop, List.length_take]; rfl)) ?_
 with_reducible refine (spec_l01In.calls ((rd_T98 l0 x3_1).f0) 0 127 true _ A4.out).mono ?_
 rintro e w' ⟨rfl, ⟨nd, rfl⟩⟩
 refine ⟨_, rfl, ?_⟩
 refine hK.out _ _ ⟨(hc_ HB hw583_0 :), (hc_ HB hw583_1 :), (hc_ HB hw585_0 :), (hc_ HB hw585_1 :), (hc_ HB hw587_0 :), (hc_ HB hw587_1 :), (hc_ HB hw588_0 :), (hc_ HB hw588_1 :)⟩ (fun hHeld => ?_)
 clear hK K
 refine norm_ (a' := ?_) ?_ ?_
 rotate_left
 ·show Act.put _ (some 15) _ = _
  simp only [Act.put, List.setIfInBounds_toArray, List.set_cons_zero, List.set_cons_succ, i64_w, i32_w]
  rfl
 refine pu_ 6 16 (bt_ 33 127) HT_ ?_
 refine pu_ 7 17 (bt_ 33 255) HT_ ?_
 refine pu_ 8 18 (bt_ 33 511) HT_ ?_
 refine pu_ 9 19 (bt_ 33 1023) HT_ ?_
 refine pu_ 10 20 (bt_ 33 2047) HT_ ?_
 refine pu_ 11 21 (bt_ 33 4095) HT_ ?_
 refine take_ (i := 12) (N := some 22) (v := ?_) (a' := ?_) (bt_ 33 8191) rfl rfl (take_ofW HT_.out HW_.out (by kernel_rfl)) (fun _ _ _ h => h) (Or.inl ⟨by rfl, ?_⟩) hHeld ?_ ?_
 rotate_left
 ·rintro w' ⟨s0, s1, s2, s3, s4, s5, s6, s7⟩
  go_simp
  with_reducible rfl
 rotate_left
 ·simp only [Act.put, List.setIfInBounds_toArray, List.set_cons_zero, List.set_cons_succ, i64_w, i32_w]
  rfl
 refine one_ (i := 13) (N := some 23) (bt_ 33 16383) rfl rfl (one_of HT_.out (by kernel_rfl)) (by decide) (fun K hK => ?_)
 refine goes_ Tryz.func91 (by kernel_rfl) rfl #[.int .i64 ((rd_T98 l0 x3_1).f1), .int .i64 0, .int .i64 127] (by rfl) rfl rfl (by (try simp only [List.map_toArray, List.map_cons, List.map_nil]); first | done | rfl | (simp only [List.length_drop, List.length_take]; rfl)) ?_
 with_reducible refine (spec_l01In.calls ((rd_T98 l0 x3_1).f1) 0 127 true _ A6.out).mono ?_
 rintro e w' ⟨rfl, ⟨nd, rfl⟩⟩
 refine ⟨_, rfl, ?_⟩
 refine hK.out _ _ ⟨(hc_ HB hw583_0 :), (hc_ HB hw583_1 :), (hc_ HB hw585_0 :), (hc_ HB hw585_1 :), (hc_ HB hw587_0 :), (hc_ HB hw587_1 :), (hc_ HB hw588_0 :), (hc_ HB hw588_1 :)⟩ (fun hHeld => ?_)
 clear hK K
 refine norm_ (a' := ?_) ?_ ?_
 rotate_left
 ·show Act.put _ (some 23) _ = _
  simp only [Act.put, List.setIfInBounds_toArray, List.set_cons_zero, List.set_cons_succ, i64_w, i32_w]
  rfl
 refine pu_ 14 24 (bt_ 33 32767) HT_ ?_
 refine pu_ 15 25 (bt_ 33 65535) HT_ ?_
 refine pu_ 16 26 (bt_ 33 131071) HT_ ?_
 refine pu_ 17 27 (bt_ 33 262143) HT_ ?_
 refine pu_ 18 28 (bt_ 33 524287) HT_ ?_
 refine pu_ 19 29 (bt_ 33 1048575) HT_ ?_
 refine pu_ 20 30 (bt_ 33 2097151) HT_ ?_
 refine pu_ 21 31 (bt_ 33 4194303) HT_ ?_
 refine pu_ 22 32 (bt_ 33 8388607) HT_ ?_
 refine pu_ 23 33 (bt_ 33 16777215) HT_ ?_
 refine pu_ 25 35 (bt_ 33 50331647) HT_ ?_
 refine pu_ 26 36 (bt_ 33 117440511) HT_ ?_
 refine pu_ 27 37 (bt_ 33 251658239) HT_ ?_
 refine take_ (i := 24) (N := some 34) (v := ?_) (a' := ?_) (bt_ 33 268435455) rfl rfl (take_ofW HT_.out HW_.out (by kernel_rfl)) (fun _ _ _ h => h) (Or.inl ⟨by rfl, ?_⟩) hHeld ?_ ?_
 rotate_left
 ·rintro w' ⟨s0, s1, s2, s3, s4, s5, s6, s7⟩
  go_simp
  with_reducible rfl
 rotate_left
 ·simp only [Act.put, List.setIfInBounds_toArray, List.set_cons_zero, List.set_cons_succ, i64_w, i32_w]
  rfl
 refine take_ (i := 28) (N := some 38) (v := ?_) (a' := ?_) (bt_ 33 536870911) rfl rfl (take_ofW HT_.out HW_.out (by kernel_rfl)) (fun _ _ _ h => h) (Or.inl ⟨by rfl, ?_⟩) hHeld ?_ ?_
 rotate_left
 ·rintro w' ⟨s0, s1, s2, s3, s4, s5, s6, s7⟩
  go_simp
  with_reducible rfl
 rotate_left
 ·simp only [Act.put, List.setIfInBounds_toArray, List.set_cons_zero, List.set_cons_succ, i64_w, i32_w]
  rfl
 refine one_ (i := 29) (N := some 39) (bt_ 33 1073741823) rfl rfl (one_of HT_.out (by kernel_rfl)) (by decide) (fun K hK => ?_)
 refine goes_ Tryz.func92 (by kernel_rfl) rfl #[.agg #[.int .i64 ((rd_T98 l0 (ji9)).f0), .int .i64 ((rd_T98 l0 (ji9)).f1)], .agg #[.int .i64 ((rd_T98 l0 x3_1).f0), .int .i64 ((rd_T98 l0 x3_1).f1)]] (by rfl) rfl rfl (by (try simp only [List.map_toArray, List.map_cons, List.map_nil]); first | done | (simp only [hji9]; rfl) | rfl | (simp only [List.length_drop, List.length_take]; rfl)) ?_
 with_reducible refine (spec_l08Less.calls ((rd_T98 l0 (ji9)).f0) ((rd_T98 l0 (ji9)).f1) ((rd_T98 l0 x3_1).f0) ((rd_T98 l0 x3_1).f1) false _ A12.out).mono ?_
 rintro e w17 ⟨rfl, hb⟩
 refine ⟨_, rfl, ?_⟩
 replace HB := hs_ HB hb
 (try clear hb)
 refine hK.out _ _ ⟨(hc_ HB hw583_0 :), (hc_ HB hw583_1 :), (hc_ HB hw585_0 :), (hc_ HB hw585_1 :), (hc_ HB hw587_0 :), (hc_ HB hw587_1 :), (hc_ HB hw588_0 :), (hc_ HB hw588_1 :)⟩ (fun hHeld => ?_)
 clear hK K
 refine norm_ (a' := ?_) ?_ ?_
 rotate_left
 ·show Act.put _ (some 39) _ = _
  simp only [Act.put, List.setIfInBounds_toArray, List.set_cons_zero, List.set_cons_succ, i64_w, i32_w]
  rfl
 refine pu_ 30 40 (bt_ 33 2147483647) HT_ ?_
 refine pu_ 31 41 (bt_ 33 4294967295) HT_ ?_
 refine pu_ 32 42 (bt_ 33 8589934591) HT_ ?_
 refine done_ (done_of HT_.out (by kernel_rfl)) ?_
 try go_wp2
 go_ret
 exact ⟨by first | rfl | (simp [errW_none, errW_some] <;> rfl) | (simp only [← hji9]; first | rfl | (simp [errW_none, errW_some] <;> rfl)) | (simp [*, errW_none, errW_some] <;> rfl), bb_ HB.out⟩

end Go.Proofs.YtimdefbpoddoaaaGreat.PFnVerdicts
-- thin
