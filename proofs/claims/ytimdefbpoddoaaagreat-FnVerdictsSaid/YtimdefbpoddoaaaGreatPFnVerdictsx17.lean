/- The law's functions as plain functions, and their calls. No condition. -/
import Derived.Test.YtimdefbpoddoaaaGreatPFnVerdictsx0
import Derived.Test.YtimdefbpoddoaaaGreatPFnVerdictsx2
import Derived.Test.YtimdefbpoddoaaaGreatPFnVerdictsx3
namespace Go.Proofs.YtimdefbpoddoaaaGreat.PFnVerdicts
open Go.RowKit Go.Proofs.YtimdefbpoddoaaaGreatW.PrintWords Go.Proofs.YtimdefbpoddoaaaGreatW.PrintLast Go.Proofs.YtimdefbpoddoaaaGreatW.PrintMore
attribute [local go_sem] max2_int min2_int max_two min_two max_three min_three max_four min_four
set_option linter.unusedVariables false
set_option maxHeartbeats 8000000
set_option maxRecDepth 100000
set_option linter.unusedSimpArgs false

/-! ### spec_MeshOk: function 111 -/
def spec_MeshOk.l0 : Nat → Int → Int → Int → List Int → Option (Bool)
 | 0, _, _, _, _ => none
 | k + 1, x3, x476000, x476001, x476002 => if x3 < (x476002.length : Int) then (if 0 ≤ x3 then ((spec_l03Leads.f x476000 x476001 (rd x476002 x3)).bind fun t478 => (if t478 = true then (if x3 > 0 then (if 0 ≤ (wrap64 (x3 - 1)) then (if (wrap64 (x3 - 1)) < (x476002.length : Int) then (if (rd x476002 x3) ≤ (rd x476002 (wrap64 (x3 - 1))) then (some false) else (spec_MeshOk.l0 k (wrap64 (x3 + 1)) x476000 x476001 x476002)) else (none)) else (none)) else (spec_MeshOk.l0 k (wrap64 (x3 + 1)) x476000 x476001 x476002)) else (some false))) else (none)) else (some true)
def spec_MeshOk.f (k : Nat) (a0_0 : Int) (a0_1 : Int) (l0_2 : List Int) : Option (Bool) := (spec_GridOk.f a0_0 a0_1).bind fun t476 => (if t476 = true then (spec_MeshOk.l0 k 0 a0_0 a0_1 l0_2) else (some false))
theorem spec_MeshOk.mono_l : ∀ k, (∀ y0 y1 y2 y3, LeO (spec_MeshOk.l0 k y0 y1 y2 y3) (spec_MeshOk.l0 (k + 1) y0 y1 y2 y3))
 | 0 => fun _ _ _ _ r h => by simp [spec_MeshOk.l0] at h
 | k + 1 => by
  have ih0 := spec_MeshOk.mono_l k
  ·intro y0 y1 y2 y3
   unfold spec_MeshOk.l0
   repeat' (with_reducible first | exact ih0 .. | exact LeO.refl .. | exact LeO.none .. | refine LeO.ite ?_ ?_ | refine LeO.bind ?_ (fun _ => ?_))
theorem spec_MeshOk.mono : ∀ a0 a1 a2 k, LeO (spec_MeshOk.f k a0 a1 a2) (spec_MeshOk.f (k + 1) a0 a1 a2) := by
 intro a0 a1 a2 k
 have ih0 := spec_MeshOk.mono_l k
 unfold spec_MeshOk.f
 repeat' (with_reducible first | exact ih0 .. | exact LeO.refl .. | exact LeO.none .. | refine LeO.ite ?_ ?_ | refine LeO.bind ?_ (fun _ => ?_))
def spec_MeshOk.T6 : Bool × List (List Nat × List Nat) := (true, [([], []), ([0], [0]), ([], []), ([2], [2]), ([], []), ([3, 4], [3, 4]), ([5], [5]), ([1, 6], [1, 6]), ([7], [7]), ([8, 7], [8]), ([9], [9]), ([10, 9], [9, 10]), ([11, 9, 9], [9, 11]), ([12], [12]), ([13, 12], [12, 13]), ([12], [12]), ([14, 15, 12], [12, 14, 15]), ([16, 12], [12, 16]), ([12], [12]), ([18, 12], [12, 18]), ([12], [12]), ([20, 12], [12, 20]), ([19, 21, 12], [12, 19, 21]), ([22, 12], [12, 22]), ([17, 23, 12], [12, 17, 23]), ([12, 24, 9], [9, 12, 24]), ([9, 25], [9, 25])])
def spec_MeshOk.B6 : List Nat := [0, 1, 0, 4, 0, 28, 60, 127, 255, 511, 1023, 2047, 4095, 8191, 16383, 8191, 65535, 131071, 8191, 270335, 8191, 1056767, 3940351, 8134655, 16777215, 33554431, 67108863]
theorem spec_MeshOk.tab6 : rtab .any (opsOf Tryz.f111 6) = spec_MeshOk.T6 := by kernel_rfl
theorem spec_MeshOk.bits6 : waitsOk spec_MeshOk.T6.2 spec_MeshOk.B6 = true := by kernel_rfl
theorem spec_MeshOk.calls (k : Nat) (a0_0 : Int) (a0_1 : Int) (A0_2 : Option Addr) (c0_2 : Nat) (l0_2 : List Int) (r : Bool) (w : World) (hr0_2 : Kd.C (Kd.int .i64) w A0_2 l0_2.length l0_2) (hc0_2 : l0_2.length ≤ c0_2) (h : spec_MeshOk.f k a0_0 a0_1 l0_2 = some r) :
  Calls Tryz.prog 111 #[.agg #[.int .i64 a0_0, .int .i64 a0_1, .slice A0_2 l0_2.length c0_2]] w fun e w' => e = .returned (.bool r) ∧ Below w.heap.size w w' := by
 have hu38 := Tryz.underlying38
 have hu36 := Tryz.underlying36
 have HR0_2 := Aside0.mk hr0_2
 have HC0_2 := Aside0.mk hc0_2
 clear hr0_2 hc0_2
 have HB := Aside0.mk (Below.refl w.heap.size w)
 have H : ((spec_GridOk.f a0_0 a0_1).bind fun t476 => (if t476 = true then (spec_MeshOk.l0 k 0 a0_0 a0_1 l0_2) else (some false))) = some r := h
 clear h
 obtain ⟨t476, A2, H⟩ := bi_ H
 by_cases c3 : t476 = true
 ·subst c3
  rw [if_pos rfl] at H
  have H' := Aside0.mk H
  clear H
  go_enter Tryz.func111, Tryz.ntmps111
  go_wp2_with (first | ((with_reducible refine gate_dst (N := 1) rfl ?_); refine box_event ?hg (N := 1) ?hd (cs := #[.int .i64 a0_0, .int .i64 a0_1, .slice A0_2 l0_2.length c0_2]) (t := 38) ?hr ?_; (case hd => rfl); (case hg => rfl); (case hr => first | (go_simp; done) | (go_simp; rfl)); intro gb475 hg w4 hbox hb; have BK475 := Aside0.mk (hbox); have GW475 := gw_ hg HB; have GE475 := gw_ hg HB; replace HB := hs_ HB hb; clear hb hbox hg; obtain ⟨hcz5_0, hcz5_1, hcz5_2, hfz5_0, hfz5_1, hfz5_2⟩ := cz3_ BK475.out) | ((with_reducible refine gate_callee (f := 112) rfl ?_); refine gm_ (some 6) Tryz.func112 #[.agg #[.int .i64 a0_0, .int .i64 a0_1]] rfl ?_; (with_reducible refine (spec_GridOk.calls a0_0 a0_1 true _ A2.out).mono ?_); rintro e w6 ⟨rfl, hb⟩; refine ⟨_, rfl, ?_⟩; replace BK475 := kb_ BK475 hb; replace HB := hs_ HB hb; (try clear hb)))
  go_loopg [3] k (fun kq v3 w' => ∃ (x3_1 : Int), v3 = .int .i64 x3_1 ∧ Aside0 (spec_MeshOk.l0 kq x3_1 a0_0 a0_1 l0_2 = some r) ∧ Aside0 (kq ≤ k) ∧ Aside0 (w'.heap[gb475]? = some (.cells #[.int .i64 a0_0, .int .i64 a0_1, (.slice A0_2 l0_2.length c0_2)] 38 (0, 0))) ∧ Aside0 (Below w.heap.size w w'))
  case atStart => exact ⟨(0), ef_, H', ⟨Nat.le_refl _⟩, ⟨bq_ BK475.out⟩, ⟨bb_ HB.out⟩⟩
  clear H'
  try clear c3
  try clear hcz5_0 hcz5_1 hcz5_2 hfz5_0 hfz5_1 hfz5_2
  obtain ⟨x3_1, rfl, HA, HK1, BK475, HB⟩ := hrel
  obtain _ | k1 := gk
  ·exact absurd HA.out (by simp [spec_MeshOk.l0])
  have H := HA.out
  clear HA
  simp only [spec_MeshOk.l0] at H
  by_cases c7 : x3_1 < (l0_2.length : Int)
  rotate_left
  ·rw [if_neg c7] at H
   have c7b0 : decide (x3_1 < (l0_2.length : Int)) = false := decide_eq_false c7
   clear c7
   obtain rfl := Option.some.inj H
   obtain ⟨hcz28_0, hcz28_1, hcz28_2, hfz28_0, hfz28_1, hfz28_2⟩ := cz3_ BK475.out
   go_wp2
   go_ret
   exact ⟨fin_, bb_ HB.out⟩
  rw [if_pos c7] at H
  have c7b0 : decide (x3_1 < (l0_2.length : Int)) = true := decide_eq_true c7
  clear c7
  by_cases c8 : 0 ≤ x3_1
  rotate_left
  ·rw [if_neg c8] at H
   exact absurd H (by simp)
  rw [if_pos c8] at H
  have c8b0 : decide (0 ≤ x3_1) = true := decide_eq_true c8
  clear c8
  obtain ⟨t478, A9, H⟩ := bi_ H
  by_cases c10 : t478 = true
  rotate_left
  ·replace c10 := Bool.eq_false_iff.mpr c10
   subst c10
   rw [if_neg (show ¬ (false = true) by decide)] at H
   obtain rfl := Option.some.inj H
   obtain ⟨hcz25_0, hcz25_1, hcz25_2, hfz25_0, hfz25_1, hfz25_2⟩ := cz3_ BK475.out
   try go_wp2
   replace BK475 := Aside0.mk (blk_drew BK475.out)
   replace HB := Aside0.mk (below_drew1 HB.out)
   have p477 : 0 ≤ (x3_1 : Int) := of_decide_eq_true dg_
   have q477 : x3_1 < (l0_2.length : Int) := of_decide_eq_true dg_
   obtain ⟨ad477, e477, hx477_0⟩ := Kd.at_int HR0_2.out x3_1 p477 q477
   have hw477_0 := hx477_0
   cases e477
   replace hx477_0 := hc_ HB hx477_0
   replace p477 := eq_true p477
   replace q477 := eq_true q477
   refine start_ (n := 27) (S := fun w' => w'.cell? ⟨gb475, 0, none⟩ = some (.int .i64 a0_0) ∧ w'.cell? ⟨gb475, 1, none⟩ = some (.int .i64 a0_1) ∧ w'.cell? ⟨gb475, 2, none⟩ = some (.slice (some ad477) l0_2.length c0_2) ∧ w'.cell? (ad477.add (x3_1).toNat) = some (.int .i64 (rd l0_2 x3_1))) (ds := []) #[false, false, false, false, false, false, false, false, false, false, false, false, false, false, false, false, false, false, false, false, false, false, false, false, false, false, false] (by kernel_rfl) rfl rfl ⟨(blk_cell BK475.out 0).trans rfl, (blk_cell BK475.out 1).trans rfl, (blk_cell BK475.out 2).trans rfl, (hc_ HB hw477_0 :)⟩ (fun hHeld => ?_); refine with_tabW spec_MeshOk.tab6 spec_MeshOk.bits6 (fun HT_ HW_ => ?_)
   generalize wr.drew = w26 at BK475 HB hx477_0 hHeld ⊢
   refine pu_ 0 15 (bt_ 27 1) HT_ ?_
   refine pu_ 2 17 (bt_ 27 5) HT_ ?_
   refine pu_ 4 19 (bt_ 27 21) HT_ ?_
   refine take_ (i := 1) (N := some 16) (v := ?_) (a' := ?_) (bt_ 27 23) rfl rfl (take_ofW HT_.out HW_.out (by kernel_rfl)) (fun _ _ _ h => h) (Or.inl ⟨by rfl, ?_⟩) hHeld ?_ ?_
   rotate_left
   ·rintro w' ⟨s0, s1, s2, s3⟩
    go_simp
    with_reducible rfl
   rotate_left
   ·simp only [Act.put, List.setIfInBounds_toArray, List.set_cons_zero, List.set_cons_succ, i64_w, i32_w]
    rfl
   refine take_ (i := 3) (N := some 18) (v := ?_) (a' := ?_) (bt_ 27 31) rfl rfl (take_ofW HT_.out HW_.out (by kernel_rfl)) (fun _ _ _ h => h) (Or.inl ⟨by rfl, ?_⟩) hHeld ?_ ?_
   rotate_left
   ·rintro w' ⟨s0, s1, s2, s3⟩
    go_simp
    with_reducible rfl
   rotate_left
   ·simp only [Act.put, List.setIfInBounds_toArray, List.set_cons_zero, List.set_cons_succ, i64_w, i32_w]
    rfl
   refine pu_ 5 20 (bt_ 27 63) HT_ ?_
   refine take_ (i := 6) (N := some 21) (v := ?_) (a' := ?_) (bt_ 27 127) rfl rfl (take_ofW HT_.out HW_.out (by kernel_rfl)) (fun _ _ _ h => h) (Or.inl ⟨by rfl, ?_⟩) hHeld ?_ ?_
   rotate_left
   ·rintro w' ⟨s0, s1, s2, s3⟩
    go_simp
    with_reducible rfl
   rotate_left
   ·simp only [Act.put, List.setIfInBounds_toArray, List.set_cons_zero, List.set_cons_succ, i64_w, i32_w]
    rfl
   refine one_ (i := 7) (N := some 22) (bt_ 27 255) rfl rfl (one_of HT_.out (by kernel_rfl)) (by decide) (fun K hK => ?_)
   refine goes_ Tryz.func124 (by kernel_rfl) rfl #[.agg #[.int .i64 a0_0, .int .i64 a0_1], .int .i64 (rd l0_2 x3_1)] (by rfl) rfl rfl (by (try simp only [List.map_toArray, List.map_cons, List.map_nil]); first | done | rfl | (simp only [List.length_drop, List.length_take]; rfl)) ?_
   with_reducible refine (spec_l03Leads.calls a0_0 a0_1 (rd l0_2 x3_1) false _ A9.out).mono ?_
   rintro e w27 ⟨rfl, hb⟩
   refine ⟨_, rfl, ?_⟩
   replace BK475 := kb_ BK475 hb
   replace HB := hs_ HB hb
   (try clear hb)
   refine hK.out _ _ ⟨(blk_cell BK475.out 0).trans rfl, (blk_cell BK475.out 1).trans rfl, (blk_cell BK475.out 2).trans rfl, (hc_ HB hw477_0 :)⟩ (fun hHeld => ?_)
   clear hK K
   refine norm_ (a' := ?_) ?_ ?_
   rotate_left
   ·show Act.put _ (some 22) _ = _
    simp only [Act.put, List.setIfInBounds_toArray, List.set_cons_zero, List.set_cons_succ, i64_w, i32_w]
    rfl
   refine pu_ 8 23 (bt_ 27 511) HT_ ?_
   refine pu_ 9 24 (bt_ 27 1023) HT_ ?_
   refine un_ 10 25 (bt_ 27 2047) HT_ ?_
   refine un_ 11 26 (bt_ 27 4095) HT_ ?_
   refine un_ 12 27 (bt_ 27 8191) HT_ ?_
   refine un_ 13 28 (bt_ 27 16383) HT_ ?_
   refine un_ 14 29 (bt_ 27 32767) HT_ ?_
   refine un_ 15 30 (bt_ 27 65535) HT_ ?_
   refine un_ 16 31 (bt_ 27 131071) HT_ ?_
   refine un_ 17 32 (bt_ 27 262143) HT_ ?_
   refine un_ 18 33 (bt_ 27 524287) HT_ ?_
   refine un_ 19 34 (bt_ 27 1048575) HT_ ?_
   refine un_ 20 35 (bt_ 27 2097151) HT_ ?_
   refine un_ 21 36 (bt_ 27 4194303) HT_ ?_
   refine un_ 22 37 (bt_ 27 8388607) HT_ ?_
   refine un_ 23 38 (bt_ 27 16777215) HT_ ?_
   refine un_ 24 39 (bt_ 27 33554431) HT_ ?_
   refine un_ 25 40 (bt_ 27 67108863) HT_ ?_
   refine pu_ 26 41 (bt_ 27 134217727) HT_ ?_
   refine done_ (done_of HT_.out (by kernel_rfl)) ?_
   try go_wp2
   go_ret
   exact ⟨fin_, bb_ HB.out⟩
  subst c10
  rw [if_pos rfl] at H
  by_cases c11 : x3_1 > 0
  rotate_left
  ·rw [if_neg c11] at H
   have c11b0 : decide (0 < x3_1) = false := decide_eq_false c11
   clear c11
   have H' := Aside0.mk H
   clear H
   obtain ⟨hcz22_0, hcz22_1, hcz22_2, hfz22_0, hfz22_1, hfz22_2⟩ := cz3_ BK475.out
   try go_wp2
   replace BK475 := Aside0.mk (blk_drew BK475.out)
   replace HB := Aside0.mk (below_drew1 HB.out)
   have p477 : 0 ≤ (x3_1 : Int) := of_decide_eq_true dg_
   have q477 : x3_1 < (l0_2.length : Int) := of_decide_eq_true dg_
   obtain ⟨ad477, e477, hx477_0⟩ := Kd.at_int HR0_2.out x3_1 p477 q477
   have hw477_0 := hx477_0
   cases e477
   replace hx477_0 := hc_ HB hx477_0
   replace p477 := eq_true p477
   replace q477 := eq_true q477
   refine start_ (n := 27) (S := fun w' => w'.cell? ⟨gb475, 0, none⟩ = some (.int .i64 a0_0) ∧ w'.cell? ⟨gb475, 1, none⟩ = some (.int .i64 a0_1) ∧ w'.cell? ⟨gb475, 2, none⟩ = some (.slice (some ad477) l0_2.length c0_2) ∧ w'.cell? (ad477.add (x3_1).toNat) = some (.int .i64 (rd l0_2 x3_1))) (ds := []) #[false, false, false, false, false, false, false, false, false, false, false, false, false, false, false, false, false, false, false, false, false, false, false, false, false, false, false] (by kernel_rfl) rfl rfl ⟨(blk_cell BK475.out 0).trans rfl, (blk_cell BK475.out 1).trans rfl, (blk_cell BK475.out 2).trans rfl, (hc_ HB hw477_0 :)⟩ (fun hHeld => ?_); refine with_tabW spec_MeshOk.tab6 spec_MeshOk.bits6 (fun HT_ HW_ => ?_)
   generalize wr.drew = w23 at BK475 HB hx477_0 hHeld ⊢
   refine pu_ 0 15 (bt_ 27 1) HT_ ?_
   refine pu_ 2 17 (bt_ 27 5) HT_ ?_
   refine pu_ 4 19 (bt_ 27 21) HT_ ?_
   refine take_ (i := 1) (N := some 16) (v := ?_) (a' := ?_) (bt_ 27 23) rfl rfl (take_ofW HT_.out HW_.out (by kernel_rfl)) (fun _ _ _ h => h) (Or.inl ⟨by rfl, ?_⟩) hHeld ?_ ?_
   rotate_left
   ·rintro w' ⟨s0, s1, s2, s3⟩
    go_simp
    with_reducible rfl
   rotate_left
   ·simp only [Act.put, List.setIfInBounds_toArray, List.set_cons_zero, List.set_cons_succ, i64_w, i32_w]
    rfl
   refine take_ (i := 3) (N := some 18) (v := ?_) (a' := ?_) (bt_ 27 31) rfl rfl (take_ofW HT_.out HW_.out (by kernel_rfl)) (fun _ _ _ h => h) (Or.inl ⟨by rfl, ?_⟩) hHeld ?_ ?_
   rotate_left
   ·rintro w' ⟨s0, s1, s2, s3⟩
    go_simp
    with_reducible rfl
   rotate_left
   ·simp only [Act.put, List.setIfInBounds_toArray, List.set_cons_zero, List.set_cons_succ, i64_w, i32_w]
    rfl
   refine pu_ 5 20 (bt_ 27 63) HT_ ?_
   refine take_ (i := 6) (N := some 21) (v := ?_) (a' := ?_) (bt_ 27 127) rfl rfl (take_ofW HT_.out HW_.out (by kernel_rfl)) (fun _ _ _ h => h) (Or.inl ⟨by rfl, ?_⟩) hHeld ?_ ?_
   rotate_left
   ·rintro w' ⟨s0, s1, s2, s3⟩
    go_simp
    with_reducible rfl
   rotate_left
   ·simp only [Act.put, List.setIfInBounds_toArray, List.set_cons_zero, List.set_cons_succ, i64_w, i32_w]
    rfl
   refine one_ (i := 7) (N := some 22) (bt_ 27 255) rfl rfl (one_of HT_.out (by kernel_rfl)) (by decide) (fun K hK => ?_)
   refine goes_ Tryz.func124 (by kernel_rfl) rfl #[.agg #[.int .i64 a0_0, .int .i64 a0_1], .int .i64 (rd l0_2 x3_1)] (by rfl) rfl rfl (by (try simp only [List.map_toArray, List.map_cons, List.map_nil]); first | done | rfl | (simp only [List.length_drop, List.length_take]; rfl)) ?_
   with_reducible refine (spec_l03Leads.calls a0_0 a0_1 (rd l0_2 x3_1) true _ A9.out).mono ?_
   rintro e w24 ⟨rfl, hb⟩
   refine ⟨_, rfl, ?_⟩
   replace BK475 := kb_ BK475 hb
   replace HB := hs_ HB hb
   (try clear hb)
   refine hK.out _ _ ⟨(blk_cell BK475.out 0).trans rfl, (blk_cell BK475.out 1).trans rfl, (blk_cell BK475.out 2).trans rfl, (hc_ HB hw477_0 :)⟩ (fun hHeld => ?_)
   clear hK K
   refine norm_ (a' := ?_) ?_ ?_
   rotate_left
   ·show Act.put _ (some 22) _ = _
    simp only [Act.put, List.setIfInBounds_toArray, List.set_cons_zero, List.set_cons_succ, i64_w, i32_w]
    rfl
   refine pu_ 8 23 (bt_ 27 511) HT_ ?_
   refine pu_ 9 24 (bt_ 27 1023) HT_ ?_
   refine pu_ 10 25 (bt_ 27 2047) HT_ ?_
   refine pu_ 11 26 (bt_ 27 4095) HT_ ?_
   refine pu_ 12 27 (bt_ 27 8191) HT_ ?_
   refine un_ 13 28 (bt_ 27 16383) HT_ ?_
   refine un_ 14 29 (bt_ 27 32767) HT_ ?_
   refine un_ 15 30 (bt_ 27 65535) HT_ ?_
   refine un_ 16 31 (bt_ 27 131071) HT_ ?_
   refine un_ 17 32 (bt_ 27 262143) HT_ ?_
   refine un_ 18 33 (bt_ 27 524287) HT_ ?_
   refine un_ 19 34 (bt_ 27 1048575) HT_ ?_
   refine un_ 20 35 (bt_ 27 2097151) HT_ ?_
   refine un_ 21 36 (bt_ 27 4194303) HT_ ?_
   refine un_ 22 37 (bt_ 27 8388607) HT_ ?_
   refine un_ 23 38 (bt_ 27 16777215) HT_ ?_
   refine un_ 24 39 (bt_ 27 33554431) HT_ ?_
   refine pu_ 25 40 (bt_ 27 67108863) HT_ ?_
   refine pu_ 26 41 (bt_ 27 134217727) HT_ ?_
   refine done_ (done_of HT_.out (by kernel_rfl)) ?_
   try go_wp2
   go_roundg k1
   case measure => have := HK1.out; omega
   case rel => exact ⟨(wrap64 (x3_1 + 1)), ef_, H', ⟨by have := HK1.out; omega⟩, ⟨bq_ BK475.out⟩, ⟨bb_ HB.out⟩⟩
  rw [if_pos c11] at H
  have c11b0 : decide (0 < x3_1) = true := decide_eq_true c11
  clear c11
  obtain ⟨ji12, hji12⟩ : ∃ j_ : Int, (wrap64 (x3_1 - 1)) = j_ := ⟨_, rfl⟩
  replace H : (if 0 ≤ (ji12) then (if (ji12) < (l0_2.length : Int) then (if (rd l0_2 x3_1) ≤ (rd l0_2 (ji12)) then (some false) else (spec_MeshOk.l0 k1 (wrap64 (x3_1 + 1)) a0_0 a0_1 l0_2)) else (none)) else (none)) = some r := by first | (rw [hji12] at H; exact H) | (simp only [hji12] at H ⊢; exact H)
  (try rw [hji12] at A9)
  have hji12w : (IntKind.i64.wrap (x3_1 - 1)) = ji12 := (i64_w _).trans hji12
  by_cases c13 : 0 ≤ (ji12)
  rotate_left
  ·rw [if_neg c13] at H
   exact absurd H (by simp)
  rw [if_pos c13] at H
  have c13b0 : decide (0 ≤ (ji12)) = true := decide_eq_true c13
  clear c13
  by_cases c14 : (ji12) < (l0_2.length : Int)
  rotate_left
  ·rw [if_neg c14] at H
   exact absurd H (by simp)
  rw [if_pos c14] at H
  have c14b0 : decide ((ji12) < (l0_2.length : Int)) = true := decide_eq_true c14
  clear c14
  by_cases c15 : (rd l0_2 x3_1) ≤ (rd l0_2 (ji12))
  rotate_left
  ·rw [if_neg c15] at H
   have c15b0 : decide ((rd l0_2 x3_1) ≤ (rd l0_2 (ji12))) = false := decide_eq_false c15
   clear c15
   have H' := Aside0.mk H
   clear H
   obtain ⟨hcz19_0, hcz19_1, hcz19_2, hfz19_0, hfz19_1, hfz19_2⟩ := cz3_ BK475.out
   try go_wp2
   replace BK475 := Aside0.mk (blk_drew BK475.out)
   replace HB := Aside0.mk (below_drew1 HB.out)
   have p477 : 0 ≤ (x3_1 : Int) := of_decide_eq_true dg_
   have q477 : x3_1 < (l0_2.length : Int) := of_decide_eq_true dg_
   obtain ⟨ad477, e477, hx477_0⟩ := Kd.at_int HR0_2.out x3_1 p477 q477
   have hw477_0 := hx477_0
   cases e477
   replace hx477_0 := hc_ HB hx477_0
   replace p477 := eq_true p477
   replace q477 := eq_true q477
   have p479 : 0 ≤ (x3_1 : Int) := of_decide_eq_true dg_
   have q479 : x3_1 < (l0_2.length : Int) := of_decide_eq_true dg_
   obtain ⟨ad479, e479, hx479_0⟩ := Kd.at_int HR0_2.out x3_1 p479 q479
   have hw479_0 := hx479_0
   obtain rfl : ad477 = ad479 := (by injection e479)
   replace hx479_0 := hc_ HB hx479_0
   replace p479 := eq_true p479
   replace q479 := eq_true q479
   have p480 : 0 ≤ ((ji12) : Int) := of_decide_eq_true dg_
   have q480 : (ji12) < (l0_2.length : Int) := of_decide_eq_true dg_
   obtain ⟨ad480, e480, hx480_0⟩ := Kd.at_int HR0_2.out (ji12) p480 q480
   have hw480_0 := hx480_0
   obtain rfl : ad477 = ad480 := (by injection e480)
   replace hx480_0 := hc_ HB hx480_0
   replace p480 := eq_true p480
   replace q480 := eq_true q480
   refine start_ (n := 27) (S := fun w' => w'.cell? ⟨gb475, 0, none⟩ = some (.int .i64 a0_0) ∧ w'.cell? ⟨gb475, 1, none⟩ = some (.int .i64 a0_1) ∧ w'.cell? ⟨gb475, 2, none⟩ = some (.slice (some ad477) l0_2.length c0_2) ∧ w'.cell? (ad477.add (x3_1).toNat) = some (.int .i64 (rd l0_2 x3_1)) ∧ w'.cell? (ad477.add (x3_1).toNat) = some (.int .i64 (rd l0_2 x3_1)) ∧ w'.cell? (ad477.add ((ji12)).toNat) = some (.int .i64 (rd l0_2 (ji12)))) (ds := []) #[false, false, false, false, false, false, false, false, false, false, false, false, false, false, false, false, false, false, false, false, false, false, false, false, false, false, false] (by kernel_rfl) rfl rfl ⟨(blk_cell BK475.out 0).trans rfl, (blk_cell BK475.out 1).trans rfl, (blk_cell BK475.out 2).trans rfl, (hc_ HB hw477_0 :), (hc_ HB hw479_0 :), (hc_ HB hw480_0 :)⟩ (fun hHeld => ?_); refine with_tabW spec_MeshOk.tab6 spec_MeshOk.bits6 (fun HT_ HW_ => ?_)
   generalize wr.drew = w20 at BK475 HB hx477_0 hx479_0 hx480_0 hHeld ⊢
   refine pu_ 0 15 (bt_ 27 1) HT_ ?_
   refine pu_ 2 17 (bt_ 27 5) HT_ ?_
   refine pu_ 4 19 (bt_ 27 21) HT_ ?_
   refine take_ (i := 1) (N := some 16) (v := ?_) (a' := ?_) (bt_ 27 23) rfl rfl (take_ofW HT_.out HW_.out (by kernel_rfl)) (fun _ _ _ h => h) (Or.inl ⟨by rfl, ?_⟩) hHeld ?_ ?_
   rotate_left
   ·rintro w' ⟨s0, s1, s2, s3, s4, s5⟩
    go_simp
    with_reducible rfl
   rotate_left
   ·simp only [Act.put, List.setIfInBounds_toArray, List.set_cons_zero, List.set_cons_succ, i64_w, i32_w]
    rfl
   refine take_ (i := 3) (N := some 18) (v := ?_) (a' := ?_) (bt_ 27 31) rfl rfl (take_ofW HT_.out HW_.out (by kernel_rfl)) (fun _ _ _ h => h) (Or.inl ⟨by rfl, ?_⟩) hHeld ?_ ?_
   rotate_left
   ·rintro w' ⟨s0, s1, s2, s3, s4, s5⟩
    go_simp
    with_reducible rfl
   rotate_left
   ·simp only [Act.put, List.setIfInBounds_toArray, List.set_cons_zero, List.set_cons_succ, i64_w, i32_w]
    rfl
   refine pu_ 5 20 (bt_ 27 63) HT_ ?_
   refine take_ (i := 6) (N := some 21) (v := ?_) (a' := ?_) (bt_ 27 127) rfl rfl (take_ofW HT_.out HW_.out (by kernel_rfl)) (fun _ _ _ h => h) (Or.inl ⟨by rfl, ?_⟩) hHeld ?_ ?_
   rotate_left
   ·rintro w' ⟨s0, s1, s2, s3, s4, s5⟩
    go_simp
    with_reducible rfl
   rotate_left
   ·simp only [Act.put, List.setIfInBounds_toArray, List.set_cons_zero, List.set_cons_succ, i64_w, i32_w]
    rfl
   refine one_ (i := 7) (N := some 22) (bt_ 27 255) rfl rfl (one_of HT_.out (by kernel_rfl)) (by decide) (fun K hK => ?_)
   refine goes_ Tryz.func124 (by kernel_rfl) rfl #[.agg #[.int .i64 a0_0, .int .i64 a0_1], .int .i64 (rd l0_2 x3_1)] (by rfl) rfl rfl (by (try simp only [List.map_toArray, List.map_cons, List.map_nil]); first | done | rfl | (simp only [List.length_drop, List.length_take]; rfl)) ?_
   with_reducible refine (spec_l03Leads.calls a0_0 a0_1 (rd l0_2 x3_1) true _ A9.out).mono ?_
   rintro e w21 ⟨rfl, hb⟩
   refine ⟨_, rfl, ?_⟩
   replace BK475 := kb_ BK475 hb
   replace HB := hs_ HB hb
   (try clear hb)
   refine hK.out _ _ ⟨(blk_cell BK475.out 0).trans rfl, (blk_cell BK475.out 1).trans rfl, (blk_cell BK475.out 2).trans rfl, (hc_ HB hw477_0 :), (hc_ HB hw479_0 :), (hc_ HB hw480_0 :)⟩ (fun hHeld => ?_)
   clear hK K
   refine norm_ (a' := ?_) ?_ ?_
   rotate_left
   ·show Act.put _ (some 22) _ = _
    simp only [Act.put, List.setIfInBounds_toArray, List.set_cons_zero, List.set_cons_succ, i64_w, i32_w]
    rfl
   refine pu_ 8 23 (bt_ 27 511) HT_ ?_
   refine pu_ 9 24 (bt_ 27 1023) HT_ ?_
   refine pu_ 10 25 (bt_ 27 2047) HT_ ?_
   refine pu_ 11 26 (bt_ 27 4095) HT_ ?_
   refine pu_ 12 27 (bt_ 27 8191) HT_ ?_
   refine pu_ 13 28 (bt_ 27 16383) HT_ ?_
   refine pu_ 15 30 (bt_ 27 49151) HT_ ?_
   refine pu_ 18 33 (bt_ 27 311295) HT_ ?_
   refine pu_ 20 35 (bt_ 27 1359871) HT_ ?_
   refine pu_ 21 36 (bt_ 27 3457023) HT_ ?_
   refine take_ (i := 14) (N := some 29) (v := ?_) (a' := ?_) (bt_ 27 3473407) rfl rfl (take_ofW HT_.out HW_.out (by kernel_rfl)) (fun _ _ _ h => h) (Or.inl ⟨by rfl, ?_⟩) hHeld ?_ ?_
   rotate_left
   ·rintro w' ⟨s0, s1, s2, s3, s4, s5⟩
    go_simp
    with_reducible rfl
   rotate_left
   ·simp only [Act.put, List.setIfInBounds_toArray, List.set_cons_zero, List.set_cons_succ, i64_w, i32_w]
    rfl
   refine pu_ 16 31 (bt_ 27 3538943) HT_ ?_
   refine take_ (i := 17) (N := some 32) (v := ?_) (a' := ?_) (bt_ 27 3670015) rfl rfl (take_ofW HT_.out HW_.out (by kernel_rfl)) (fun _ _ _ h => h) (Or.inl ⟨by rfl, ?_⟩) hHeld ?_ ?_
   rotate_left
   ·rintro w' ⟨s0, s1, s2, s3, s4, s5⟩
    go_simp
    with_reducible rfl
   rotate_left
   ·simp only [Act.put, List.setIfInBounds_toArray, List.set_cons_zero, List.set_cons_succ, i64_w, i32_w]
    rfl
   refine take_ (i := 19) (N := some 34) (v := ?_) (a' := ?_) (bt_ 27 4194303) rfl rfl (take_ofW HT_.out HW_.out (by kernel_rfl)) (fun _ _ _ h => h) (Or.inl ⟨by rfl, ?_⟩) hHeld ?_ ?_
   rotate_left
   ·rintro w' ⟨s0, s1, s2, s3, s4, s5⟩
    go_simp
    with_reducible rfl
   rotate_left
   ·simp only [Act.put, List.setIfInBounds_toArray, List.set_cons_zero, List.set_cons_succ, i64_w, i32_w]
    rfl
   refine pu_ 22 37 (bt_ 27 8388607) HT_ ?_
   refine take_ (i := 23) (N := some 38) (v := ?_) (a' := ?_) (bt_ 27 16777215) rfl rfl (take_ofW HT_.out HW_.out (by kernel_rfl)) (fun _ _ _ h => h) (Or.inl ⟨by rfl, ?_⟩) hHeld ?_ ?_
   rotate_left
   ·rintro w' ⟨s0, s1, s2, s3, s4, s5⟩
    go_simp
    with_reducible rfl
   rotate_left
   ·simp only [Act.put, List.setIfInBounds_toArray, List.set_cons_zero, List.set_cons_succ, i64_w, i32_w]
    rfl
   refine pu_ 24 39 (bt_ 27 33554431) HT_ ?_
   refine pu_ 25 40 (bt_ 27 67108863) HT_ ?_
   refine pu_ 26 41 (bt_ 27 134217727) HT_ ?_
   refine done_ (done_of HT_.out (by kernel_rfl)) ?_
   try go_wp2
   go_roundg k1
   case measure => have := HK1.out; omega
   case rel => exact ⟨(wrap64 (x3_1 + 1)), ef_, H', ⟨by have := HK1.out; omega⟩, ⟨bq_ BK475.out⟩, ⟨bb_ HB.out⟩⟩
  rw [if_pos c15] at H
  have c15b0 : decide ((rd l0_2 x3_1) ≤ (rd l0_2 (ji12))) = true := decide_eq_true c15
  clear c15
  obtain rfl := Option.some.inj H
  obtain ⟨hcz16_0, hcz16_1, hcz16_2, hfz16_0, hfz16_1, hfz16_2⟩ := cz3_ BK475.out
  try go_wp2
  replace BK475 := Aside0.mk (blk_drew BK475.out)
  replace HB := Aside0.mk (below_drew1 HB.out)
  have p477 : 0 ≤ (x3_1 : Int) := of_decide_eq_true dg_
  have q477 : x3_1 < (l0_2.length : Int) := of_decide_eq_true dg_
  obtain ⟨ad477, e477, hx477_0⟩ := Kd.at_int HR0_2.out x3_1 p477 q477
  have hw477_0 := hx477_0
  cases e477
  replace hx477_0 := hc_ HB hx477_0
  replace p477 := eq_true p477
  replace q477 := eq_true q477
  have p479 : 0 ≤ (x3_1 : Int) := of_decide_eq_true dg_
  have q479 : x3_1 < (l0_2.length : Int) := of_decide_eq_true dg_
  obtain ⟨ad479, e479, hx479_0⟩ := Kd.at_int HR0_2.out x3_1 p479 q479
  have hw479_0 := hx479_0
  obtain rfl : ad477 = ad479 := (by injection e479)
  replace hx479_0 := hc_ HB hx479_0
  replace p479 := eq_true p479
  replace q479 := eq_true q479
  have p480 : 0 ≤ ((ji12) : Int) := of_decide_eq_true dg_
  have q480 : (ji12) < (l0_2.length : Int) := of_decide_eq_true dg_
  obtain ⟨ad480, e480, hx480_0⟩ := Kd.at_int HR0_2.out (ji12) p480 q480
  have hw480_0 := hx480_0
  obtain rfl : ad477 = ad480 := (by injection e480)
  replace hx480_0 := hc_ HB hx480_0
  replace p480 := eq_true p480
  replace q480 := eq_true q480
  refine start_ (n := 27) (S := fun w' => w'.cell? ⟨gb475, 0, none⟩ = some (.int .i64 a0_0) ∧ w'.cell? ⟨gb475, 1, none⟩ = some (.int .i64 a0_1) ∧ w'.cell? ⟨gb475, 2, none⟩ = some (.slice (some ad477) l0_2.length c0_2) ∧ w'.cell? (ad477.add (x3_1).toNat) = some (.int .i64 (rd l0_2 x3_1)) ∧ w'.cell? (ad477.add (x3_1).toNat) = some (.int .i64 (rd l0_2 x3_1)) ∧ w'.cell? (ad477.add ((ji12)).toNat) = some (.int .i64 (rd l0_2 (ji12)))) (ds := []) #[false, false, false, false, false, false, false, false, false, false, false, false, false, false, false, false, false, false, false, false, false, false, false, false, false, false, false] (by kernel_rfl) rfl rfl ⟨(blk_cell BK475.out 0).trans rfl, (blk_cell BK475.out 1).trans rfl, (blk_cell BK475.out 2).trans rfl, (hc_ HB hw477_0 :), (hc_ HB hw479_0 :), (hc_ HB hw480_0 :)⟩ (fun hHeld => ?_); refine with_tabW spec_MeshOk.tab6 spec_MeshOk.bits6 (fun HT_ HW_ => ?_)
  generalize wr.drew = w17 at BK475 HB hx477_0 hx479_0 hx480_0 hHeld ⊢
  refine pu_ 0 15 (bt_ 27 1) HT_ ?_
  refine pu_ 2 17 (bt_ 27 5) HT_ ?_
  refine pu_ 4 19 (bt_ 27 21) HT_ ?_
  refine take_ (i := 1) (N := some 16) (v := ?_) (a' := ?_) (bt_ 27 23) rfl rfl (take_ofW HT_.out HW_.out (by kernel_rfl)) (fun _ _ _ h => h) (Or.inl ⟨by rfl, ?_⟩) hHeld ?_ ?_
  rotate_left
  ·rintro w' ⟨s0, s1, s2, s3, s4, s5⟩
   go_simp
   with_reducible rfl
  rotate_left
  ·simp only [Act.put, List.setIfInBounds_toArray, List.set_cons_zero, List.set_cons_succ, i64_w, i32_w]
   rfl
  refine take_ (i := 3) (N := some 18) (v := ?_) (a' := ?_) (bt_ 27 31) rfl rfl (take_ofW HT_.out HW_.out (by kernel_rfl)) (fun _ _ _ h => h) (Or.inl ⟨by rfl, ?_⟩) hHeld ?_ ?_
  rotate_left
  ·rintro w' ⟨s0, s1, s2, s3, s4, s5⟩
   go_simp
   with_reducible rfl
  rotate_left
  ·simp only [Act.put, List.setIfInBounds_toArray, List.set_cons_zero, List.set_cons_succ, i64_w, i32_w]
   rfl
  refine pu_ 5 20 (bt_ 27 63) HT_ ?_
  refine take_ (i := 6) (N := some 21) (v := ?_) (a' := ?_) (bt_ 27 127) rfl rfl (take_ofW HT_.out HW_.out (by kernel_rfl)) (fun _ _ _ h => h) (Or.inl ⟨by rfl, ?_⟩) hHeld ?_ ?_
  rotate_left
  ·rintro w' ⟨s0, s1, s2, s3, s4, s5⟩
   go_simp
   with_reducible rfl
  rotate_left
  ·simp only [Act.put, List.setIfInBounds_toArray, List.set_cons_zero, List.set_cons_succ, i64_w, i32_w]
   rfl
  refine one_ (i := 7) (N := some 22) (bt_ 27 255) rfl rfl (one_of HT_.out (by kernel_rfl)) (by decide) (fun K hK => ?_)
  refine goes_ Tryz.func124 (by kernel_rfl) rfl #[.agg #[.int .i64 a0_0, .int .i64 a0_1], .int .i64 (rd l0_2 x3_1)] (by rfl) rfl rfl (by (try simp only [List.map_toArray, List.map_cons, List.map_nil]); first | done | rfl | (simp only [List.length_drop, List.length_take]; rfl)) ?_
  with_reducible refine (spec_l03Leads.calls a0_0 a0_1 (rd l0_2 x3_1) true _ A9.out).mono ?_
  rintro e w18 ⟨rfl, hb⟩
  refine ⟨_, rfl, ?_⟩
  replace BK475 := kb_ BK475 hb
  replace HB := hs_ HB hb
  (try clear hb)
  refine hK.out _ _ ⟨(blk_cell BK475.out 0).trans rfl, (blk_cell BK475.out 1).trans rfl, (blk_cell BK475.out 2).trans rfl, (hc_ HB hw477_0 :), (hc_ HB hw479_0 :), (hc_ HB hw480_0 :)⟩ (fun hHeld => ?_)
  clear hK K
  refine norm_ (a' := ?_) ?_ ?_
  rotate_left
  ·show Act.put _ (some 22) _ = _
   simp only [Act.put, List.setIfInBounds_toArray, List.set_cons_zero, List.set_cons_succ, i64_w, i32_w]
   rfl
  refine pu_ 8 23 (bt_ 27 511) HT_ ?_
  refine pu_ 9 24 (bt_ 27 1023) HT_ ?_
  refine pu_ 10 25 (bt_ 27 2047) HT_ ?_
  refine pu_ 11 26 (bt_ 27 4095) HT_ ?_
  refine pu_ 12 27 (bt_ 27 8191) HT_ ?_
  refine pu_ 13 28 (bt_ 27 16383) HT_ ?_
  refine pu_ 15 30 (bt_ 27 49151) HT_ ?_
  refine pu_ 18 33 (bt_ 27 311295) HT_ ?_
  refine pu_ 20 35 (bt_ 27 1359871) HT_ ?_
  refine pu_ 21 36 (bt_ 27 3457023) HT_ ?_
  refine take_ (i := 14) (N := some 29) (v := ?_) (a' := ?_) (bt_ 27 3473407) rfl rfl (take_ofW HT_.out HW_.out (by kernel_rfl)) (fun _ _ _ h => h) (Or.inl ⟨by rfl, ?_⟩) hHeld ?_ ?_
  rotate_left
  ·rintro w' ⟨s0, s1, s2, s3, s4, s5⟩
   go_simp
   with_reducible rfl
  rotate_left
  ·simp only [Act.put, List.setIfInBounds_toArray, List.set_cons_zero, List.set_cons_succ, i64_w, i32_w]
   rfl
  refine pu_ 16 31 (bt_ 27 3538943) HT_ ?_
  refine take_ (i := 17) (N := some 32) (v := ?_) (a' := ?_) (bt_ 27 3670015) rfl rfl (take_ofW HT_.out HW_.out (by kernel_rfl)) (fun _ _ _ h => h) (Or.inl ⟨by rfl, ?_⟩) hHeld ?_ ?_
  rotate_left
  ·rintro w' ⟨s0, s1, s2, s3, s4, s5⟩
   go_simp
   with_reducible rfl
  rotate_left
  ·simp only [Act.put, List.setIfInBounds_toArray, List.set_cons_zero, List.set_cons_succ, i64_w, i32_w]
   rfl
  refine take_ (i := 19) (N := some 34) (v := ?_) (a' := ?_) (bt_ 27 4194303) rfl rfl (take_ofW HT_.out HW_.out (by kernel_rfl)) (fun _ _ _ h => h) (Or.inl ⟨by rfl, ?_⟩) hHeld ?_ ?_
  rotate_left
  ·rintro w' ⟨s0, s1, s2, s3, s4, s5⟩
   go_simp
   with_reducible rfl
  rotate_left
  ·simp only [Act.put, List.setIfInBounds_toArray, List.set_cons_zero, List.set_cons_succ, i64_w, i32_w]
   rfl
  refine pu_ 22 37 (bt_ 27 8388607) HT_ ?_
  refine take_ (i := 23) (N := some 38) (v := ?_) (a' := ?_) (bt_ 27 16777215) rfl rfl (take_ofW HT_.out HW_.out (by kernel_rfl)) (fun _ _ _ h => h) (Or.inl ⟨by rfl, ?_⟩) hHeld ?_ ?_
  rotate_left
  ·rintro w' ⟨s0, s1, s2, s3, s4, s5⟩
   go_simp
   with_reducible rfl
  rotate_left
  ·simp only [Act.put, List.setIfInBounds_toArray, List.set_cons_zero, List.set_cons_succ, i64_w, i32_w]
   rfl
  refine pu_ 24 39 (bt_ 27 33554431) HT_ ?_
  refine pu_ 25 40 (bt_ 27 67108863) HT_ ?_
  refine pu_ 26 41 (bt_ 27 134217727) HT_ ?_
  refine done_ (done_of HT_.out (by kernel_rfl)) ?_
  try go_wp2
  go_ret
  exact ⟨by first | rfl | (simp [errW_none, errW_some] <;> rfl) | (simp only [← hji12]; first | rfl | (simp [errW_none, errW_some] <;> rfl)) | (simp [*, errW_none, errW_some] <;> rfl), bb_ HB.out⟩
 ·replace c3 := Bool.eq_false_iff.mpr c3
  subst c3
  rw [if_neg (show ¬ (false = true) by decide)] at H
  obtain rfl := Option.some.inj H
  go_enter Tryz.func111, Tryz.ntmps111
  go_wp2_with (first | ((with_reducible refine gate_dst (N := 1) rfl ?_); refine box_event ?hg (N := 1) ?hd (cs := #[.int .i64 a0_0, .int .i64 a0_1, .slice A0_2 l0_2.length c0_2]) (t := 38) ?hr ?_; (case hd => rfl); (case hg => rfl); (case hr => first | (go_simp; done) | (go_simp; rfl)); intro gb475 hg w29 hbox hb; have BK475 := Aside0.mk (hbox); have GW475 := gw_ hg HB; have GE475 := gw_ hg HB; replace HB := hs_ HB hb; clear hb hbox hg; obtain ⟨hcz30_0, hcz30_1, hcz30_2, hfz30_0, hfz30_1, hfz30_2⟩ := cz3_ BK475.out) | ((with_reducible refine gate_callee (f := 112) rfl ?_); refine gm_ (some 6) Tryz.func112 #[.agg #[.int .i64 a0_0, .int .i64 a0_1]] rfl ?_; (with_reducible refine (spec_GridOk.calls a0_0 a0_1 false _ A2.out).mono ?_); rintro e w31 ⟨rfl, hb⟩; refine ⟨_, rfl, ?_⟩; replace BK475 := kb_ BK475 hb; replace HB := hs_ HB hb; (try clear hb)))
  go_ret
  exact ⟨fin_, bb_ HB.out⟩

end Go.Proofs.YtimdefbpoddoaaaGreat.PFnVerdicts
-- thin
