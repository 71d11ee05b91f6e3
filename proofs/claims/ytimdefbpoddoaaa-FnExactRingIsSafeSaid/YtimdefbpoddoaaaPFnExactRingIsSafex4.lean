/- Each function that the law comes to, as a plain function, with the proof that the call in the model gives what that function says (written by a program of this session out of the translation). No condition. -/
import Derived.Test.YtimdefbpoddoaaaPFnExactRingIsSafex0
import Derived.Test.YtimdefbpoddoaaaPFnExactRingIsSafex2
import Derived.Test.YtimdefbpoddoaaaPFnExactRingIsSafex3
namespace Go.Proofs.Ytimdefbpoddoaaa.PFnExactRingIsSafe
open Go.RowKit Go.Proofs.YtimdefbpoddoaaaW.PrintWords Go.Proofs.YtimdefbpoddoaaaW.PrintLast Go.Proofs.YtimdefbpoddoaaaW.PrintMore
attribute [local go_sem] max2_int min2_int max_two min_two max_three min_three max_four min_four   -- for this text's walks alone
set_option linter.unusedVariables false
set_option linter.unusedSimpArgs false

/-! ### spec_RingDepends: function 13 -/
mutual
def spec_RingDepends.l0 : Nat → Int → Bool → List (S94) → Int → Option ((List (S94)))
 | 0, _, _, _, _ => none
 | k + 1, x0, x1, x5, x6 => if x6 < (wrap64 (x0 * x0)) then ((spec_l01In.f x0 2 12).bind fun t160 => (spec_RingDepends.j1 k x0 x1 x5 x6 t160)) else (spec_RingDepends.j1 k x0 x1 x5 x6 false)
def spec_RingDepends.j1 : Nat → Int → Bool → List (S94) → Int → Bool → Option ((List (S94)))
 | 0, _, _, _, _, _ => none
 | k + 1, x0, x1, x5, x6, x18 => if x18 = true then (if x0 = 0 then (none) else ((spec_RingHops.f k x0 (wrap64 (Int.tdiv x6 x0)) (Int.tmod x6 x0) x1).bind fun t161 => (spec_RingDepends.l1 k x0 x1 x5 x6 t161 1))) else (some x5)
def spec_RingDepends.l1 : Nat → Int → Bool → List (S94) → Int → List (S92) → Int → Option ((List (S94)))
 | 0, _, _, _, _, _, _ => none
 | k + 1, x0, x1, x5, x6, x7, x8 => if x8 < (x7.length : Int) then (if 0 ≤ (wrap64 (x8 - 1)) then (if (wrap64 (x8 - 1)) < (x7.length : Int) then (if 0 ≤ x8 then ((spec_l08Put.f k x5 (wrap64 ((wrap64 (((rd_T92 x7 (wrap64 (x8 - 1))).f1) * 64)) + ((rd_T92 x7 (wrap64 (x8 - 1))).f0))) (wrap64 ((wrap64 (((rd_T92 x7 x8).f1) * 64)) + ((rd_T92 x7 x8).f0)))).bind fun t168 => (spec_RingDepends.l1 k x0 x1 t168 x6 x7 (wrap64 (x8 + 1)))) else (none)) else (none)) else (none)) else (spec_RingDepends.l0 k x0 x1 x5 (wrap64 (x6 + 1)))
end
def spec_RingDepends.f (k : Nat) (a0 : Int) (a1 : Bool) : Option ((List (S94))) := spec_RingDepends.l0 k a0 a1 (([] : List (S94))) 0
theorem spec_RingDepends.mono_l : ∀ k, (∀ y0 y1 y2 y3, LeO (spec_RingDepends.l0 k y0 y1 y2 y3) (spec_RingDepends.l0 (k + 1) y0 y1 y2 y3)) ∧ (∀ y0 y1 y2 y3 y4, LeO (spec_RingDepends.j1 k y0 y1 y2 y3 y4) (spec_RingDepends.j1 (k + 1) y0 y1 y2 y3 y4)) ∧ (∀ y0 y1 y2 y3 y4 y5, LeO (spec_RingDepends.l1 k y0 y1 y2 y3 y4 y5) (spec_RingDepends.l1 (k + 1) y0 y1 y2 y3 y4 y5))
 | 0 => ⟨fun _ _ _ _ r h => by simp [spec_RingDepends.l0] at h, fun _ _ _ _ _ r h => by simp [spec_RingDepends.j1] at h, fun _ _ _ _ _ _ r h => by simp [spec_RingDepends.l1] at h⟩
 | k + 1 => by
  obtain ⟨ih0, ih1, ih2⟩ := spec_RingDepends.mono_l k
  refine ⟨?_, ?_, ?_⟩
  ·intro y0 y1 y2 y3
   unfold spec_RingDepends.l0
   repeat' first
   | (with_reducible exact ih0 _ _ _ _)
   | (with_reducible exact ih1 _ _ _ _ _)
   | (with_reducible exact ih2 _ _ _ _ _ _)
   | (with_reducible exact spec_RingHops.mono _ _ _ _ _)
   | (with_reducible exact spec_l08Put.mono _ _ _ _)
   | (with_reducible exact LeO.refl _)
   | (with_reducible exact LeO.none _)
   | (with_reducible refine LeO.ite ?_ ?_)
   | (with_reducible refine LeO.bind ?_ (fun _ => ?_))
   | exact ih0 _ _ _ _
   | exact ih1 _ _ _ _ _
   | exact ih2 _ _ _ _ _ _
   | exact spec_RingHops.mono _ _ _ _ _
   | exact spec_l08Put.mono _ _ _ _
   | exact LeO.none _
   | refine LeO.ite ?_ ?_
   | refine LeO.bind ?_ (fun _ => ?_)
  ·intro y0 y1 y2 y3 y4
   unfold spec_RingDepends.j1
   repeat' first
   | (with_reducible exact ih0 _ _ _ _)
   | (with_reducible exact ih1 _ _ _ _ _)
   | (with_reducible exact ih2 _ _ _ _ _ _)
   | (with_reducible exact spec_RingHops.mono _ _ _ _ _)
   | (with_reducible exact spec_l08Put.mono _ _ _ _)
   | (with_reducible exact LeO.refl _)
   | (with_reducible exact LeO.none _)
   | (with_reducible refine LeO.ite ?_ ?_)
   | (with_reducible refine LeO.bind ?_ (fun _ => ?_))
   | exact ih0 _ _ _ _
   | exact ih1 _ _ _ _ _
   | exact ih2 _ _ _ _ _ _
   | exact spec_RingHops.mono _ _ _ _ _
   | exact spec_l08Put.mono _ _ _ _
   | exact LeO.none _
   | refine LeO.ite ?_ ?_
   | refine LeO.bind ?_ (fun _ => ?_)
  ·intro y0 y1 y2 y3 y4 y5
   unfold spec_RingDepends.l1
   repeat' first
   | (with_reducible exact ih0 _ _ _ _)
   | (with_reducible exact ih1 _ _ _ _ _)
   | (with_reducible exact ih2 _ _ _ _ _ _)
   | (with_reducible exact spec_RingHops.mono _ _ _ _ _)
   | (with_reducible exact spec_l08Put.mono _ _ _ _)
   | (with_reducible exact LeO.refl _)
   | (with_reducible exact LeO.none _)
   | (with_reducible refine LeO.ite ?_ ?_)
   | (with_reducible refine LeO.bind ?_ (fun _ => ?_))
   | exact ih0 _ _ _ _
   | exact ih1 _ _ _ _ _
   | exact ih2 _ _ _ _ _ _
   | exact spec_RingHops.mono _ _ _ _ _
   | exact spec_l08Put.mono _ _ _ _
   | exact LeO.none _
   | refine LeO.ite ?_ ?_
   | refine LeO.bind ?_ (fun _ => ?_)
theorem spec_RingDepends.mono : ∀ a0 a1 k, LeO (spec_RingDepends.f k a0 a1) (spec_RingDepends.f (k + 1) a0 a1) := by
 intro a0 a1 k
 obtain ⟨ih0, ih1, ih2⟩ := spec_RingDepends.mono_l k
 unfold spec_RingDepends.f
 repeat' first
   | (with_reducible exact ih0 _ _ _ _)
   | (with_reducible exact ih1 _ _ _ _ _)
   | (with_reducible exact ih2 _ _ _ _ _ _)
   | (with_reducible exact spec_RingHops.mono _ _ _ _ _)
   | (with_reducible exact spec_l08Put.mono _ _ _ _)
   | (with_reducible exact LeO.refl _)
   | (with_reducible exact LeO.none _)
   | (with_reducible refine LeO.ite ?_ ?_)
   | (with_reducible refine LeO.bind ?_ (fun _ => ?_))
   | exact ih0 _ _ _ _
   | exact ih1 _ _ _ _ _
   | exact ih2 _ _ _ _ _ _
   | exact spec_RingHops.mono _ _ _ _ _
   | exact spec_l08Put.mono _ _ _ _
   | exact LeO.none _
   | refine LeO.ite ?_ ?_
   | refine LeO.bind ?_ (fun _ => ?_)
def spec_RingDepends.T5 : Bool × List (List Nat × List Nat) := (true, [([], []), ([], []), ([], []), ([1, 2], [1, 2]), ([], []), ([], []), ([4, 5], [4, 5]), ([], []), ([0, 3, 6, 7], [0, 3, 6, 7]), ([8, 8, 0, 1, 2, 3, 4, 5, 6, 7, 8], [8])])
def spec_RingDepends.B5 : List Nat := [0, 0, 0, 6, 0, 0, 48, 0, 255, 511]
theorem spec_RingDepends.tab5 : rtab .any (opsOf Try.f13 5) = spec_RingDepends.T5 := by kernel_rfl
theorem spec_RingDepends.bits5 : waitsOk spec_RingDepends.T5.2 spec_RingDepends.B5 = true := by kernel_rfl
def spec_RingDepends.T9 : Bool × List (List Nat × List Nat) := (true, [([], []), ([], []), ([], []), ([2], [2]), ([1, 3], [1, 3]), ([4], [4]), ([5], [5]), ([6], [6]), ([], []), ([], []), ([9], [9]), ([8, 10], [8, 10]), ([11], [11]), ([12], [12]), ([7, 13], [7, 13]), ([], []), ([], []), ([15, 16], [15, 16]), ([17], [17]), ([18], [18]), ([19], [19]), ([], []), ([], []), ([21, 22], [21, 22]), ([23], [23]), ([24], [24]), ([20, 25], [20, 25]), ([14, 26], [14, 26]), ([0, 27], [0, 27]), ([28, 28, 0, 1, 2, 3, 4, 5, 6, 7, 8, 9, 10, 11, 12, 13, 14, 15, 16, 17, 18, 19, 20, 21, 22, 23, 24, 25, 26, 27, 28], [0, 28])])
def spec_RingDepends.B9 : List Nat := [0, 0, 0, 4, 14, 30, 62, 126, 0, 0, 512, 1792, 3840, 7936, 16382, 0, 0, 98304, 229376, 491520, 1015808, 0, 0, 6291456, 14680064, 31457280, 67076096, 134217726, 268435455, 536870911]
theorem spec_RingDepends.tab9 : rtab .any (opsOf Try.f13 9) = spec_RingDepends.T9 := by kernel_rfl
theorem spec_RingDepends.bits9 : waitsOk spec_RingDepends.T9.2 spec_RingDepends.B9 = true := by kernel_rfl
set_option maxHeartbeats 8000000 in
set_option maxRecDepth 100000 in
theorem spec_RingDepends.calls (k : Nat) (a0 : Int) (a1 : Bool) (r : List (S94)) (w : World) (h : spec_RingDepends.f k a0 a1 = some r) :
  Calls Try.prog 13 #[.int .i64 a0, .bool a1] w fun e w' => ∃ v0_ : Value, e = .returned (v0_) ∧ Kd.R k94 94 w' w.heap.size (fun _ => True) v0_ r ∧ Below w.heap.size w w' := by
 have hu94 := Try.underlying94
 have HB := Aside0.mk (Below.refl w.heap.size w)
 have H : (spec_RingDepends.l0 k a0 a1 (([] : List (S94))) 0) = some r := h
 clear h
 obtain ⟨y157, hy157⟩ : ∃ y_ : List (S94), y_ = (([] : List (S94))) := ⟨_, rfl⟩
 replace H : (spec_RingDepends.l0 k a0 a1 y157 0) = some r := by first | (rw [hy157]; with_reducible exact H) | (have H2_ := (Option.bind_some _ _).symm.trans H; rw [hy157]; with_reducible exact H2_) | (have H2_ := (Option.bind_some _ _).symm.trans H; with_reducible exact H2_) | with_reducible exact H | (rw [hy157]; exact H) | exact H
 have Ny157 := Aside0.mk hy157
 clear hy157
 have H' := Aside0.mk H
 clear H
 go_enter Try.func13, Try.ntmps13
 go_wp2_with (first | ((with_reducible refine gate_dst (N := 9) rfl ?_); refine Kd.R_lit k94 _ 94 ?hg (N := 9) ?hd (xs := ([] : List (S94))) (inner := []) (ok := fun _ => True) (okp := fun _ => True) ?hr ?hp (fun _ hk => hk) trivial (Below.refl _ _) (Nat.le_refl _) (by simp) ?_; (case hd => rfl); (case hg => rfl); (case hr => first | (go_simp; done) | (go_simp; rfl)); (case hp => exact (Reps.none _ _)); intro v158 w3 ho4 hb hg_ hnew_; clear hg_ hnew_; (first | rw [← Ny157.out] at ho4 | (simp only [Int.reduceToNat] at ho4; rw [← Ny157.out] at ho4)); have HO159 := Aside0.mk (Kd.R_lower ho4 (bz_ HB.out)); replace HB := Aside0.mk (bs_ HB.out hb); clear hb ho4))
 go_loopg [5, 6] k (fun kq v5 v6 w' => ∃ (x5_1 : List (S94)) (x6_1 : Int), v6 = .int .i64 x6_1 ∧ Aside0 (spec_RingDepends.l0 kq a0 a1 x5_1 x6_1 = some r) ∧ Aside0 (kq ≤ k) ∧ Aside0 (Kd.R k94 94 w' w.heap.size (fun _ => True) v5 x5_1) ∧ Aside0 (Below w.heap.size w w'))
 case atStart => exact ⟨(y157), (0), ef_, H', ⟨Nat.le_refl _⟩, ⟨by (with_reducible repeat (first | apply Kd.R_alloc | apply Kd.R_drewN | apply Kd.R_drew)); exact HO159.out⟩, ⟨bb_ HB.out⟩⟩
 case round =>
  clear H'
  obtain ⟨x5_1, x6_1, rfl, HA, HK1, HO_5, HB⟩ := hrel
  cases gk with
  | zero => exact absurd HA.out (by simp [spec_RingDepends.l0])
  | succ k1 =>
   have H := HA.out
   clear HA
   simp only [spec_RingDepends.l0] at H
   have HC5 := Aside0.mk H
   clear H
   go_upto_region 3 with (fail)
   go_cut [18] (fun v18 wc => ∃ (kq : Nat) (x18_4 : Bool), v18 = .bool x18_4 ∧ Aside0 (spec_RingDepends.j1 kq a0 a1 x5_1 x6_1 x18_4 = some r) ∧ Aside0 (kq ≤ k1) ∧ Aside0 (Kd.R k94 94 wc w.heap.size (fun _ => True) u5 x5_1) ∧ Aside0 (Below w.heap.size w wc))
   case first =>
    have H := HC5.out
    clear HC5
    by_cases c6 : x6_1 < (wrap64 (a0 * a0))
    ·rw [if_pos c6] at H
     have c6b0 : decide (x6_1 < (wrap64 (a0 * a0))) = true := decide_eq_true c6
     clear c6
     (first | rw [c6b0] | (simp only [i64_w, i32_w]; rw [c6b0]) | skip)
     replace H := Option.bind_eq_some_iff.mp H
     obtain ⟨t160, A70, H⟩ := H
     try dsimp only at H
     have A7 := Aside0.mk A70
     clear A70
     have H' := Aside0.mk H
     clear H
     go_wp2_with (first | (go_at_call 61; (with_reducible refine (spec_l01In.calls a0 2 12 t160 _ A7.out).mono ?_); rintro e w' ⟨rfl, ⟨nd, rfl⟩⟩))
     go_meet
     case rel => exact ⟨_, (t160), ef_, H', ⟨by have := HK1.out; first | omega | exact Nat.le_refl _⟩, ⟨by (with_reducible repeat (first | apply Kd.R_alloc | apply Kd.R_drewN | apply Kd.R_drew)); exact HO_5.out⟩, ⟨bb_ HB.out⟩⟩
    ·rw [if_neg c6] at H
     have c6b0 : decide (x6_1 < (wrap64 (a0 * a0))) = false := decide_eq_false c6
     clear c6
     (first | rw [c6b0] | (simp only [i64_w, i32_w]; rw [c6b0]) | skip)
     have H' := Aside0.mk H
     clear H
     go_wp2
     go_meet
     case rel => exact ⟨_, (false), ef_, H', ⟨by have := HK1.out; first | omega | exact Nat.le_refl _⟩, ⟨by (with_reducible repeat (first | apply Kd.R_alloc | apply Kd.R_drewN | apply Kd.R_drew)); exact HO_5.out⟩, ⟨bb_ HB.out⟩⟩
   case rest =>
    clear HC5
    obtain ⟨kq, x18_4, rfl, HA, HJ4, HO_5, HB⟩ := hcut
    cases kq with
    | zero => exact absurd HA.out (by simp [spec_RingDepends.j1])
    | succ kj4 =>
     have H := HA.out
     clear HA
     simp only [spec_RingDepends.j1] at H
     by_cases c8 : x18_4 = true
     ·subst c8
      rw [if_pos rfl] at H
      by_cases c9 : a0 = 0
      ·rw [if_pos c9] at H
       exact absurd H (by simp)
      ·rw [if_neg c9] at H
       have c9b0 : (a0 == 0) = false := beq_eq_false_iff_ne.mpr c9
       have c9b1 : (a0 != 0) = true := bne_iff_ne.mpr c9
       replace H := Option.bind_eq_some_iff.mp H
       obtain ⟨t161, A100, H⟩ := H
       try dsimp only at H
       have A10 := Aside0.mk A100
       clear A100
       have H' := Aside0.mk H
       clear H
       try go_wp2
       have n0_ := Aside0.mk (Kd.R_drew HO_5.out)
       have n1_ := Aside0.mk (below_drew1 HB.out)
       clear HO_5
       clear HB
       have HO_5 := n0_
       have HB := n1_
       clear n0_ n1_
       refine start_ (n := 10) (S := fun w' => True) (ds := []) #[false, false, false, false, false, false, false, false, false, false] (by kernel_rfl) rfl rfl trivial (fun hHeld => ?_); refine with_tabW spec_RingDepends.tab5 spec_RingDepends.bits5 (fun HT_ HW_ => ?_)
       generalize wc.drew = w11 at HO_5 HB hHeld ⊢
       refine pu_ 0 21 (bt_ 10 1) HT_ ?_
       refine pu_ 1 22 (bt_ 10 3) HT_ ?_
       refine pu_ 2 23 (bt_ 10 7) HT_ ?_
       refine pu_ 3 24 (bt_ 10 15) HT_ ?_
       refine pu_ 4 25 (bt_ 10 31) HT_ ?_
       refine pu_ 5 26 (bt_ 10 63) HT_ ?_
       refine pu_ 6 27 (bt_ 10 127) HT_ ?_
       refine pu_ 7 28 (bt_ 10 255) HT_ ?_
       refine one_ (i := 8) (N := some 29) (bt_ 10 511) rfl rfl (one_of HT_.out (by kernel_rfl)) (by decide) (fun K hK => ?_)
       refine goes_ Try.func62 (by kernel_rfl) rfl #[.int .i64 a0, .int .i64 (wrap64 (Int.tdiv x6_1 a0)), .int .i64 (Int.tmod x6_1 a0), .bool a1] (by rfl) rfl rfl (by (try simp only [List.map_toArray, List.map_cons, List.map_nil]); first | done | rfl | (simp only [List.length_drop, List.length_take]; rfl)) ?_
       with_reducible refine (spec_RingHops.calls kj4 a0 (wrap64 (Int.tdiv x6_1 a0)) (Int.tmod x6_1 a0) a1 t161 _ A10.out).mono ?_
       rintro e w12 ⟨v162, rfl, ho0, hb⟩
       refine ⟨_, rfl, ?_⟩
       have n0_ := Aside0.mk (Kd.R_below (ra_ HO_5.out) hb)
       have n1_ := Aside0.mk (Kd.R_lower ho0 (bz_ HB.out))
       have n2_ := Aside0.mk (bs_ HB.out hb)
       clear HO_5
       clear HB
       have HO_5 := n0_
       have HO163 := n1_
       have HB := n2_
       clear n0_ n1_ n2_
       (try clear hb)
       (try clear hb2)
       (try clear hk)
       (try clear hi)
       (try clear ho0)
       refine hK.out _ _ trivial (fun hHeld => ?_)
       clear hK K
       refine norm_ (a' := ?_) ?_ ?_
       rotate_left
       ·show Act.put _ (some 29) _ = _
        simp only [Act.put, List.setIfInBounds_toArray, List.set_cons_zero, List.set_cons_succ, i64_w, i32_w]
        rfl
       refine pu_ 9 7 (bt_ 10 1023) HT_ ?_
       refine done_ (done_of HT_.out (by kernel_rfl)) ?_
       try go_wp2
       go_loopg [5, 8] kj4 (fun kq v5 v8 w' => ∃ (x5_3 : List (S94)) (x8_3 : Int), v8 = .int .i64 x8_3 ∧ Aside0 (spec_RingDepends.l1 kq a0 a1 x5_3 x6_1 t161 x8_3 = some r) ∧ Aside0 (kq ≤ kj4) ∧ Aside0 (Kd.R k94 94 w' w.heap.size (fun _ => True) v5 x5_3) ∧ Aside0 (Kd.R k92 92 w' w.heap.size (fun _ => True) v162 t161) ∧ Aside0 (Below w.heap.size w w'))
       case atStart => exact ⟨(x5_1), (1), ef_, H', ⟨Nat.le_refl _⟩, ⟨by (with_reducible repeat (first | apply Kd.R_alloc | apply Kd.R_drewN | apply Kd.R_drew)); exact HO_5.out⟩, ⟨by (with_reducible repeat (first | apply Kd.R_alloc | apply Kd.R_drewN | apply Kd.R_drew)); exact HO163.out⟩, ⟨bb_ HB.out⟩⟩
       case round =>
        clear H'
        try clear c8
        try clear c9
        try clear c9b0
        try clear c9b1
        obtain ⟨x5_3, x8_3, rfl, HA, HK3, HO_5, HO_7, HB⟩ := hrel
        cases gk with
        | zero => exact absurd HA.out (by simp [spec_RingDepends.l1])
        | succ k3 =>
         have H := HA.out
         clear HA
         simp only [spec_RingDepends.l1] at H
         by_cases c13 : x8_3 < (t161.length : Int)
         ·rw [if_pos c13] at H
          have c13b0 : decide (x8_3 < (t161.length : Int)) = true := decide_eq_true c13
          clear c13
          obtain ⟨ji14, hji14⟩ : ∃ j_ : Int, (wrap64 (x8_3 - 1)) = j_ := ⟨_, rfl⟩
          replace H : (if 0 ≤ (ji14) then (if (ji14) < (t161.length : Int) then (if 0 ≤ x8_3 then ((spec_l08Put.f k3 x5_3 (wrap64 ((wrap64 (((rd_T92 t161 (ji14)).f1) * 64)) + ((rd_T92 t161 (ji14)).f0))) (wrap64 ((wrap64 (((rd_T92 t161 x8_3).f1) * 64)) + ((rd_T92 t161 x8_3).f0)))).bind fun t168 => (spec_RingDepends.l1 k3 a0 a1 t168 x6_1 t161 (wrap64 (x8_3 + 1)))) else (none)) else (none)) else (none)) = some r := by first | (rw [hji14] at H; exact H) | (simp only [hji14] at H ⊢; exact H)
          have hji14w : (IntKind.i64.wrap (x8_3 - 1)) = ji14 := (i64_w _).trans hji14
          by_cases c15 : 0 ≤ (ji14)
          ·rw [if_pos c15] at H
           have c15b0 : decide (0 ≤ (ji14)) = true := decide_eq_true c15
           clear c15
           by_cases c16 : (ji14) < (t161.length : Int)
           ·rw [if_pos c16] at H
            have c16b0 : decide ((ji14) < (t161.length : Int)) = true := decide_eq_true c16
            clear c16
            by_cases c17 : 0 ≤ x8_3
            ·rw [if_pos c17] at H
             have c17b0 : decide (0 ≤ x8_3) = true := decide_eq_true c17
             clear c17
             replace H := Option.bind_eq_some_iff.mp H
             obtain ⟨t168, A180, H⟩ := H
             try dsimp only at H
             have A18 := Aside0.mk A180
             clear A180
             have H' := Aside0.mk H
             clear H
             obtain ⟨Ao19, co19, eo19⟩ := Kd.R_slice HO_7.out
             subst eo19
             try go_wp2
             have n0_ := Aside0.mk (Kd.R_drew HO_5.out)
             have n1_ := Aside0.mk (Kd.R_drew HO_7.out)
             have n2_ := Aside0.mk (below_drew1 HB.out)
             clear HO_5
             clear HO_7
             clear HB
             have HO_5 := n0_
             have HO_7 := n1_
             have HB := n2_
             clear n0_ n1_ n2_
             have p164 : 0 ≤ ((ji14) : Int) := of_decide_eq_true dg_
             have q164 : (ji14) < (t161.length : Int) := of_decide_eq_true dg_
             obtain ⟨ad164, e164, hx164_0, hx164_1⟩ := at_T92 (Kd.R_reads' HO_7.out).2.2 (ji14) p164 q164
             cases e164
             replace p164 := eq_true p164
             replace q164 := eq_true q164
             have p165 : 0 ≤ ((ji14) : Int) := of_decide_eq_true dg_
             have q165 : (ji14) < (t161.length : Int) := of_decide_eq_true dg_
             obtain ⟨ad165, e165, hx165_0, hx165_1⟩ := at_T92 (Kd.R_reads' HO_7.out).2.2 (ji14) p165 q165
             obtain rfl : ad164 = ad165 := (by injection e165)
             replace p165 := eq_true p165
             replace q165 := eq_true q165
             have p166 : 0 ≤ (x8_3 : Int) := of_decide_eq_true dg_
             have q166 : x8_3 < (t161.length : Int) := of_decide_eq_true dg_
             obtain ⟨ad166, e166, hx166_0, hx166_1⟩ := at_T92 (Kd.R_reads' HO_7.out).2.2 x8_3 p166 q166
             obtain rfl : ad164 = ad166 := (by injection e166)
             replace p166 := eq_true p166
             replace q166 := eq_true q166
             have p167 : 0 ≤ (x8_3 : Int) := of_decide_eq_true dg_
             have q167 : x8_3 < (t161.length : Int) := of_decide_eq_true dg_
             obtain ⟨ad167, e167, hx167_0, hx167_1⟩ := at_T92 (Kd.R_reads' HO_7.out).2.2 x8_3 p167 q167
             obtain rfl : ad164 = ad167 := (by injection e167)
             replace p167 := eq_true p167
             replace q167 := eq_true q167
             obtain ⟨Ao21, co21, eo21⟩ := Kd.R_slice HO_5.out
             (first | subst eo21 | (injection eo21 with f1_ f2_ f3_; have f4_ := f1_.symm; have f5_ := f3_.symm; clear f1_ f2_ f3_; subst f4_; subst f5_))
             refine start_ (n := 30) (S := fun w' => w'.cell? (ad164.add (((ji14)).toNat * 2)) = some (.int .i64 ((rd_T92 t161 (ji14)).f0)) ∧ w'.cell? ⟨(ad164.add (((ji14)).toNat * 2)).block, (ad164.add (((ji14)).toNat * 2)).off + 1, none⟩ = some (.int .i64 ((rd_T92 t161 (ji14)).f1)) ∧ w'.cell? (ad164.add (((ji14)).toNat * 2)) = some (.int .i64 ((rd_T92 t161 (ji14)).f0)) ∧ w'.cell? ⟨(ad164.add (((ji14)).toNat * 2)).block, (ad164.add (((ji14)).toNat * 2)).off + 1, none⟩ = some (.int .i64 ((rd_T92 t161 (ji14)).f1)) ∧ w'.cell? (ad164.add ((x8_3).toNat * 2)) = some (.int .i64 ((rd_T92 t161 x8_3).f0)) ∧ w'.cell? ⟨(ad164.add ((x8_3).toNat * 2)).block, (ad164.add ((x8_3).toNat * 2)).off + 1, none⟩ = some (.int .i64 ((rd_T92 t161 x8_3).f1)) ∧ w'.cell? (ad164.add ((x8_3).toNat * 2)) = some (.int .i64 ((rd_T92 t161 x8_3).f0)) ∧ w'.cell? ⟨(ad164.add ((x8_3).toNat * 2)).block, (ad164.add ((x8_3).toNat * 2)).off + 1, none⟩ = some (.int .i64 ((rd_T92 t161 x8_3).f1))) (ds := []) #[false, false, false, false, false, false, false, false, false, false, false, false, false, false, false, false, false, false, false, false, false, false, false, false, false, false, false, false, false, false] (by kernel_rfl) rfl rfl ⟨hx164_0, hx164_1, hx165_0, hx165_1, hx166_0, hx166_1, hx167_0, hx167_1⟩ (fun hHeld => ?_); refine with_tabW spec_RingDepends.tab9 spec_RingDepends.bits9 (fun HT_ HW_ => ?_)
             generalize wr.drew = w20 at HO_5 HO_7 HB hx164_0 hx164_1 hx165_0 hx165_1 hx166_0 hx166_1 hx167_0 hx167_1 hHeld ⊢
             refine pu_ 0 36 (bt_ 30 1) HT_ ?_
             refine pu_ 1 37 (bt_ 30 3) HT_ ?_
             refine pu_ 2 38 (bt_ 30 7) HT_ ?_
             refine pu_ 3 39 (bt_ 30 15) HT_ ?_
             refine pu_ 4 40 (bt_ 30 31) HT_ ?_
             refine pu_ 5 41 (bt_ 30 63) HT_ ?_
             refine pu_ 8 44 (bt_ 30 319) HT_ ?_
             refine pu_ 9 45 (bt_ 30 831) HT_ ?_
             refine pu_ 10 46 (bt_ 30 1855) HT_ ?_
             refine pu_ 11 47 (bt_ 30 3903) HT_ ?_
             refine pu_ 12 48 (bt_ 30 7999) HT_ ?_
             refine pu_ 15 51 (bt_ 30 40767) HT_ ?_
             refine pu_ 16 52 (bt_ 30 106303) HT_ ?_
             refine pu_ 17 53 (bt_ 30 237375) HT_ ?_
             refine pu_ 18 54 (bt_ 30 499519) HT_ ?_
             refine pu_ 21 57 (bt_ 30 2596671) HT_ ?_
             refine pu_ 22 58 (bt_ 30 6790975) HT_ ?_
             refine pu_ 23 59 (bt_ 30 15179583) HT_ ?_
             refine pu_ 24 60 (bt_ 30 31956799) HT_ ?_
             refine take_ (i := 6) (N := some 42) (v := ?_) (a' := ?_) (bt_ 30 31956863) rfl rfl (take_ofW HT_.out HW_.out (by kernel_rfl)) (fun _ _ _ h => h) (Or.inl ⟨by rfl, ?_⟩) hHeld ?_ ?_
             rotate_left
             ·rintro w' ⟨s0, s1, s2, s3, s4, s5, s6, s7⟩
              go_simp
              with_reducible rfl
             rotate_left
             ·simp only [Act.put, List.setIfInBounds_toArray, List.set_cons_zero, List.set_cons_succ, i64_w, i32_w]
              rfl
             refine pu_ 7 43 (bt_ 30 31956991) HT_ ?_
             refine take_ (i := 13) (N := some 49) (v := ?_) (a' := ?_) (bt_ 30 31965183) rfl rfl (take_ofW HT_.out HW_.out (by kernel_rfl)) (fun _ _ _ h => h) (Or.inl ⟨by rfl, ?_⟩) hHeld ?_ ?_
             rotate_left
             ·rintro w' ⟨s0, s1, s2, s3, s4, s5, s6, s7⟩
              go_simp
              with_reducible rfl
             rotate_left
             ·simp only [Act.put, List.setIfInBounds_toArray, List.set_cons_zero, List.set_cons_succ, i64_w, i32_w]
              rfl
             refine pu_ 14 50 (bt_ 30 31981567) HT_ ?_
             refine take_ (i := 19) (N := some 55) (v := ?_) (a' := ?_) (bt_ 30 32505855) rfl rfl (take_ofW HT_.out HW_.out (by kernel_rfl)) (fun _ _ _ h => h) (Or.inl ⟨by rfl, ?_⟩) hHeld ?_ ?_
             rotate_left
             ·rintro w' ⟨s0, s1, s2, s3, s4, s5, s6, s7⟩
              go_simp
              with_reducible rfl
             rotate_left
             ·simp only [Act.put, List.setIfInBounds_toArray, List.set_cons_zero, List.set_cons_succ, i64_w, i32_w]
              rfl
             refine pu_ 20 56 (bt_ 30 33554431) HT_ ?_
             refine take_ (i := 25) (N := some 61) (v := ?_) (a' := ?_) (bt_ 30 67108863) rfl rfl (take_ofW HT_.out HW_.out (by kernel_rfl)) (fun _ _ _ h => h) (Or.inl ⟨by rfl, ?_⟩) hHeld ?_ ?_
             rotate_left
             ·rintro w' ⟨s0, s1, s2, s3, s4, s5, s6, s7⟩
              go_simp
              with_reducible rfl
             rotate_left
             ·simp only [Act.put, List.setIfInBounds_toArray, List.set_cons_zero, List.set_cons_succ, i64_w, i32_w]
              rfl
             refine pu_ 26 62 (bt_ 30 134217727) HT_ ?_
             refine pu_ 27 63 (bt_ 30 268435455) HT_ ?_
             refine one_ (i := 28) (N := some 64) (bt_ 30 536870911) rfl rfl (one_of HT_.out (by kernel_rfl)) (by decide) (fun K hK => ?_)
             refine goes_ Try.func63 (by kernel_rfl) rfl #[.slice Ao21 x5_3.length co21, .agg #[.int .i64 (wrap64 ((wrap64 (((rd_T92 t161 (ji14)).f1) * 64)) + ((rd_T92 t161 (ji14)).f0))), .int .i64 (wrap64 ((wrap64 (((rd_T92 t161 x8_3).f1) * 64)) + ((rd_T92 t161 x8_3).f0)))]] (by rfl) rfl rfl (by (try simp only [List.map_toArray, List.map_cons, List.map_nil]); first | done | (simp only [hji14]; rfl) | rfl | (simp only [List.length_drop, List.length_take]; rfl)) ?_
             with_reducible refine (spec_l08Put.calls k3 (fun k_ => some k_ = (.slice Ao21 x5_3.length co21 : Value).ownBlock) (.slice Ao21 x5_3.length co21) x5_3 (wrap64 ((wrap64 (((rd_T92 t161 (ji14)).f1) * 64)) + ((rd_T92 t161 (ji14)).f0))) (wrap64 ((wrap64 (((rd_T92 t161 x8_3).f1) * 64)) + ((rd_T92 t161 x8_3).f0))) t168 w _ ?side1 ?side2 A18.out).mono ?_
             (case side1 => repeat (first | (with_reducible first | exact HB.out | apply below_alloc | apply pw_below_drewN | apply below_drew1) | exact HB.out))
             (case side2 => exact Kd.R_tight rfl HO_5.out)
             rintro e w22 ⟨v169, rfl, ho0, hb, hkp⟩
             have HS0_ := cell_kept (hHeld.1) hkp (by first | (rw [add_block]; exact (fun hs_ => ((((Kd.R_apart' HO_7.out (Kd.R_typed HO_5.out) (by decide))).1 _ rfl).2) hs_)) | (show ¬ _; simp only [add_block]; exact (fun hs_ => ((((Kd.R_apart' HO_7.out (Kd.R_typed HO_5.out) (by decide))).1 _ rfl).2) hs_)) | exact (fun hs_ => ((((Kd.R_apart' HO_7.out (Kd.R_typed HO_5.out) (by decide))).1 _ rfl).2) hs_))
             have HS1_ := cell_kept (hHeld.2.1) hkp (by first | (rw [add_block]; exact (fun hs_ => ((((Kd.R_apart' HO_7.out (Kd.R_typed HO_5.out) (by decide))).1 _ rfl).2) hs_)) | (show ¬ _; simp only [add_block]; exact (fun hs_ => ((((Kd.R_apart' HO_7.out (Kd.R_typed HO_5.out) (by decide))).1 _ rfl).2) hs_)) | exact (fun hs_ => ((((Kd.R_apart' HO_7.out (Kd.R_typed HO_5.out) (by decide))).1 _ rfl).2) hs_))
             have HS2_ := cell_kept (hHeld.2.2.1) hkp (by first | (rw [add_block]; exact (fun hs_ => ((((Kd.R_apart' HO_7.out (Kd.R_typed HO_5.out) (by decide))).1 _ rfl).2) hs_)) | (show ¬ _; simp only [add_block]; exact (fun hs_ => ((((Kd.R_apart' HO_7.out (Kd.R_typed HO_5.out) (by decide))).1 _ rfl).2) hs_)) | exact (fun hs_ => ((((Kd.R_apart' HO_7.out (Kd.R_typed HO_5.out) (by decide))).1 _ rfl).2) hs_))
             have HS3_ := cell_kept (hHeld.2.2.2.1) hkp (by first | (rw [add_block]; exact (fun hs_ => ((((Kd.R_apart' HO_7.out (Kd.R_typed HO_5.out) (by decide))).1 _ rfl).2) hs_)) | (show ¬ _; simp only [add_block]; exact (fun hs_ => ((((Kd.R_apart' HO_7.out (Kd.R_typed HO_5.out) (by decide))).1 _ rfl).2) hs_)) | exact (fun hs_ => ((((Kd.R_apart' HO_7.out (Kd.R_typed HO_5.out) (by decide))).1 _ rfl).2) hs_))
             have HS4_ := cell_kept (hHeld.2.2.2.2.1) hkp (by first | (rw [add_block]; exact (fun hs_ => ((((Kd.R_apart' HO_7.out (Kd.R_typed HO_5.out) (by decide))).1 _ rfl).2) hs_)) | (show ¬ _; simp only [add_block]; exact (fun hs_ => ((((Kd.R_apart' HO_7.out (Kd.R_typed HO_5.out) (by decide))).1 _ rfl).2) hs_)) | exact (fun hs_ => ((((Kd.R_apart' HO_7.out (Kd.R_typed HO_5.out) (by decide))).1 _ rfl).2) hs_))
             have HS5_ := cell_kept (hHeld.2.2.2.2.2.1) hkp (by first | (rw [add_block]; exact (fun hs_ => ((((Kd.R_apart' HO_7.out (Kd.R_typed HO_5.out) (by decide))).1 _ rfl).2) hs_)) | (show ¬ _; simp only [add_block]; exact (fun hs_ => ((((Kd.R_apart' HO_7.out (Kd.R_typed HO_5.out) (by decide))).1 _ rfl).2) hs_)) | exact (fun hs_ => ((((Kd.R_apart' HO_7.out (Kd.R_typed HO_5.out) (by decide))).1 _ rfl).2) hs_))
             have HS6_ := cell_kept (hHeld.2.2.2.2.2.2.1) hkp (by first | (rw [add_block]; exact (fun hs_ => ((((Kd.R_apart' HO_7.out (Kd.R_typed HO_5.out) (by decide))).1 _ rfl).2) hs_)) | (show ¬ _; simp only [add_block]; exact (fun hs_ => ((((Kd.R_apart' HO_7.out (Kd.R_typed HO_5.out) (by decide))).1 _ rfl).2) hs_)) | exact (fun hs_ => ((((Kd.R_apart' HO_7.out (Kd.R_typed HO_5.out) (by decide))).1 _ rfl).2) hs_))
             have HS7_ := cell_kept (hHeld.2.2.2.2.2.2.2) hkp (by first | (rw [add_block]; exact (fun hs_ => ((((Kd.R_apart' HO_7.out (Kd.R_typed HO_5.out) (by decide))).1 _ rfl).2) hs_)) | (show ¬ _; simp only [add_block]; exact (fun hs_ => ((((Kd.R_apart' HO_7.out (Kd.R_typed HO_5.out) (by decide))).1 _ rfl).2) hs_)) | exact (fun hs_ => ((((Kd.R_apart' HO_7.out (Kd.R_typed HO_5.out) (by decide))).1 _ rfl).2) hs_))
             refine ⟨_, rfl, ?_⟩
             have n0_ := Aside0.mk (Kd.R_mono (ok' := fun k_ => True) (Kd.R_keptB ((Kd.R_apart' HO_7.out (Kd.R_typed HO_5.out) (by decide))) hkp (fun k_ hk_ hs_ => (hk_.2) hs_)) (fun k_ hk_ => trivial))
             have n1_ := Aside0.mk (Kd.R_mono (ok' := fun k_ => True) ho0 (fun k_ hk_ => trivial))
             have n2_ := Aside0.mk (hb)
             clear HO_7
             clear HB
             clear HO_5
             have HO_7 := n0_
             have HO170 := n1_
             have HB := n2_
             clear n0_ n1_ n2_
             (try clear hb)
             (try clear hkp)
             (try clear ho0)
             refine hK.out _ _ ⟨HS0_, HS1_, HS2_, HS3_, HS4_, HS5_, HS6_, HS7_⟩ (fun hHeld => ?_)
             clear hK K
             refine norm_ (a' := ?_) ?_ ?_
             rotate_left
             ·show Act.put _ (some 64) _ = _
              simp only [Act.put, List.setIfInBounds_toArray, List.set_cons_zero, List.set_cons_succ, i64_w, i32_w]
              rfl
             refine pu_ 29 5 (bt_ 30 1073741823) HT_ ?_
             refine done_ (done_of HT_.out (by kernel_rfl)) ?_
             try go_wp2
             go_roundg k3
             case measure => have := HK1.out; have := HJ4.out; have := HK3.out; omega
             case rel => exact ⟨(t168), (wrap64 (x8_3 + 1)), ef_, H', ⟨by have := HK1.out; have := HJ4.out; have := HK3.out; omega⟩, ⟨by (with_reducible repeat (first | apply Kd.R_alloc | apply Kd.R_drewN | apply Kd.R_drew)); exact HO170.out⟩, ⟨by (with_reducible repeat (first | apply Kd.R_alloc | apply Kd.R_drewN | apply Kd.R_drew)); exact HO_7.out⟩, ⟨bb_ HB.out⟩⟩
            ·rw [if_neg c17] at H
             exact absurd H (by simp)
           ·rw [if_neg c16] at H
            exact absurd H (by simp)
          ·rw [if_neg c15] at H
           exact absurd H (by simp)
         ·rw [if_neg c13] at H
          have c13b0 : decide (x8_3 < (t161.length : Int)) = false := decide_eq_false c13
          clear c13
          have H' := Aside0.mk H
          clear H
          obtain ⟨Ao23, co23, eo23⟩ := Kd.R_slice HO_7.out
          subst eo23
          go_wp2
          go_roundg k3
          case measure => have := HK1.out; have := HJ4.out; have := HK3.out; omega
          case rel => exact ⟨(x5_3), (wrap64 (x6_1 + 1)), ef_, H', ⟨by have := HK1.out; have := HJ4.out; have := HK3.out; omega⟩, ⟨by (with_reducible repeat (first | apply Kd.R_alloc | apply Kd.R_drewN | apply Kd.R_drew)); exact HO_5.out⟩, ⟨bb_ HB.out⟩⟩
     ·replace c8 := Bool.eq_false_iff.mpr c8
      subst c8
      rw [if_neg (show ¬ (false = true) by decide)] at H
      obtain rfl := Option.some.inj H
      go_wp2
      go_ret
      exact ⟨_, fin_, by (with_reducible repeat (first | apply Kd.R_alloc | apply Kd.R_drewN | apply Kd.R_drew)); exact HO_5.out, bb_ HB.out⟩

end Go.Proofs.Ytimdefbpoddoaaa.PFnExactRingIsSafe
-- thin
