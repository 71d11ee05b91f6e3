/- Each function that the law comes to, as a plain function, with the proof that the call in the model gives what that function says (written by a program of this session out of the translation). No condition. -/
import Derived.Test.YtimdefbpoddoaaaPFnRingsx0
import Derived.Test.YtimdefbpoddoaaaPFnRingsx1
import Derived.Test.YtimdefbpoddoaaaPFnRingsx2
namespace Go.Proofs.Ytimdefbpoddoaaa.PFnRings
open Go.RowKit Go.Proofs.YtimdefbpoddoaaaW.PrintWords Go.Proofs.YtimdefbpoddoaaaW.PrintLast Go.Proofs.YtimdefbpoddoaaaW.PrintMore
attribute [local go_sem] max2_int min2_int max_two min_two max_three min_three max_four min_four   -- for this text's walks alone
set_option linter.unusedVariables false
set_option linter.unusedSimpArgs false

/-! ### impl_RingDepends: function 14 -/
mutual
def impl_RingDepends.l0 : Nat → Int → Bool → List (S94) → Int → Int → Option ((List (S94)))
 | 0, _, _, _, _, _ => none
 | k + 1, x0, x1, x5, x15, x16 => if x16 < x15 then (impl_RingDepends.l1 k x0 x1 x5 x16 x15 x16 x0 0) else ((impl_arranged.f x5).bind fun t118 => (some t118))
def impl_RingDepends.l1 : Nat → Int → Bool → List (S94) → Int → Int → Int → Int → Int → Option ((List (S94)))
 | 0, _, _, _, _, _, _, _, _ => none
 | k + 1, x0, x1, x5, x6, x15, x16, x19, x20 => if x20 < x19 then ((impl_RingHops.f k x0 x6 x20 x1).bind fun t121 => (impl_RingDepends.l2 k x0 x1 x5 x6 t121 1 x15 x16 x19 x20)) else (impl_RingDepends.l0 k x0 x1 x5 x15 (wrap64 (x16 + 1)))
def impl_RingDepends.l2 : Nat → Int → Bool → List (S94) → Int → List (S92) → Int → Int → Int → Int → Int → Option ((List (S94)))
 | 0, _, _, _, _, _, _, _, _, _, _ => none
 | k + 1, x0, x1, x5, x6, x8, x9, x15, x16, x19, x20 => if x9 < (x8.length : Int) then (if 0 ≤ (wrap64 (x9 - 1)) then (if (wrap64 (x9 - 1)) < (x8.length : Int) then (if 0 ≤ x9 then (if x5.length < 8796093022208 then (impl_RingDepends.l2 k x0 x1 (x5 ++ [(⟨wrap64 ((wrap64 (((rd_T92 x8 (wrap64 (x9 - 1))).f1) * 64)) + ((rd_T92 x8 (wrap64 (x9 - 1))).f0)), wrap64 ((wrap64 (((rd_T92 x8 x9).f1) * 64)) + ((rd_T92 x8 x9).f0))⟩ : S94)]) x6 x8 (wrap64 (x9 + 1)) x15 x16 x19 x20) else (none)) else (none)) else (none)) else (none)) else (impl_RingDepends.l1 k x0 x1 x5 x6 x15 x16 x19 (wrap64 (x20 + 1)))
end
def impl_RingDepends.f (k : Nat) (a0 : Int) (a1 : Bool) : Option ((List (S94))) := (some (([] : List (S94)) : List (S94))).bind fun y114 => ((impl_isRing.f k a0 ([] : List Int)).bind fun t117 => (if t117 = true then (impl_RingDepends.l0 k a0 a1 y114 a0 0) else (some y114)))
theorem impl_RingDepends.mono_l : ∀ k, (∀ y0 y1 y2 y3 y4, LeO (impl_RingDepends.l0 k y0 y1 y2 y3 y4) (impl_RingDepends.l0 (k + 1) y0 y1 y2 y3 y4)) ∧ (∀ y0 y1 y2 y3 y4 y5 y6 y7, LeO (impl_RingDepends.l1 k y0 y1 y2 y3 y4 y5 y6 y7) (impl_RingDepends.l1 (k + 1) y0 y1 y2 y3 y4 y5 y6 y7)) ∧ (∀ y0 y1 y2 y3 y4 y5 y6 y7 y8 y9, LeO (impl_RingDepends.l2 k y0 y1 y2 y3 y4 y5 y6 y7 y8 y9) (impl_RingDepends.l2 (k + 1) y0 y1 y2 y3 y4 y5 y6 y7 y8 y9))
 | 0 => ⟨fun _ _ _ _ _ r h => by simp [impl_RingDepends.l0] at h, fun _ _ _ _ _ _ _ _ r h => by simp [impl_RingDepends.l1] at h, fun _ _ _ _ _ _ _ _ _ _ r h => by simp [impl_RingDepends.l2] at h⟩
 | k + 1 => by
  obtain ⟨ih0, ih1, ih2⟩ := impl_RingDepends.mono_l k
  refine ⟨?_, ?_, ?_⟩
  ·intro y0 y1 y2 y3 y4
   unfold impl_RingDepends.l0
   repeat' first
   | (with_reducible exact ih0 _ _ _ _ _)
   | (with_reducible exact ih1 _ _ _ _ _ _ _ _)
   | (with_reducible exact ih2 _ _ _ _ _ _ _ _ _ _)
   | (with_reducible exact impl_RingHops.mono _ _ _ _ _)
   | (with_reducible exact impl_isRing.mono _ _ _)
   | (with_reducible exact LeO.refl _)
   | (with_reducible exact LeO.none _)
   | (with_reducible refine LeO.ite ?_ ?_)
   | (with_reducible refine LeO.bind ?_ (fun _ => ?_))
   | exact ih0 _ _ _ _ _
   | exact ih1 _ _ _ _ _ _ _ _
   | exact ih2 _ _ _ _ _ _ _ _ _ _
   | exact impl_RingHops.mono _ _ _ _ _
   | exact impl_isRing.mono _ _ _
   | exact LeO.none _
   | refine LeO.ite ?_ ?_
   | refine LeO.bind ?_ (fun _ => ?_)
  ·intro y0 y1 y2 y3 y4 y5 y6 y7
   unfold impl_RingDepends.l1
   repeat' first
   | (with_reducible exact ih0 _ _ _ _ _)
   | (with_reducible exact ih1 _ _ _ _ _ _ _ _)
   | (with_reducible exact ih2 _ _ _ _ _ _ _ _ _ _)
   | (with_reducible exact impl_RingHops.mono _ _ _ _ _)
   | (with_reducible exact impl_isRing.mono _ _ _)
   | (with_reducible exact LeO.refl _)
   | (with_reducible exact LeO.none _)
   | (with_reducible refine LeO.ite ?_ ?_)
   | (with_reducible refine LeO.bind ?_ (fun _ => ?_))
   | exact ih0 _ _ _ _ _
   | exact ih1 _ _ _ _ _ _ _ _
   | exact ih2 _ _ _ _ _ _ _ _ _ _
   | exact impl_RingHops.mono _ _ _ _ _
   | exact impl_isRing.mono _ _ _
   | exact LeO.none _
   | refine LeO.ite ?_ ?_
   | refine LeO.bind ?_ (fun _ => ?_)
  ·intro y0 y1 y2 y3 y4 y5 y6 y7 y8 y9
   unfold impl_RingDepends.l2
   repeat' first
   | (with_reducible exact ih0 _ _ _ _ _)
   | (with_reducible exact ih1 _ _ _ _ _ _ _ _)
   | (with_reducible exact ih2 _ _ _ _ _ _ _ _ _ _)
   | (with_reducible exact impl_RingHops.mono _ _ _ _ _)
   | (with_reducible exact impl_isRing.mono _ _ _)
   | (with_reducible exact LeO.refl _)
   | (with_reducible exact LeO.none _)
   | (with_reducible refine LeO.ite ?_ ?_)
   | (with_reducible refine LeO.bind ?_ (fun _ => ?_))
   | exact ih0 _ _ _ _ _
   | exact ih1 _ _ _ _ _ _ _ _
   | exact ih2 _ _ _ _ _ _ _ _ _ _
   | exact impl_RingHops.mono _ _ _ _ _
   | exact impl_isRing.mono _ _ _
   | exact LeO.none _
   | refine LeO.ite ?_ ?_
   | refine LeO.bind ?_ (fun _ => ?_)
theorem impl_RingDepends.mono : ∀ a0 a1 k, LeO (impl_RingDepends.f k a0 a1) (impl_RingDepends.f (k + 1) a0 a1) := by
 intro a0 a1 k
 obtain ⟨ih0, ih1, ih2⟩ := impl_RingDepends.mono_l k
 unfold impl_RingDepends.f
 repeat' first
   | (with_reducible exact ih0 _ _ _ _ _)
   | (with_reducible exact ih1 _ _ _ _ _ _ _ _)
   | (with_reducible exact ih2 _ _ _ _ _ _ _ _ _ _)
   | (with_reducible exact impl_RingHops.mono _ _ _ _ _)
   | (with_reducible exact impl_isRing.mono _ _ _)
   | (with_reducible exact LeO.refl _)
   | (with_reducible exact LeO.none _)
   | (with_reducible refine LeO.ite ?_ ?_)
   | (with_reducible refine LeO.bind ?_ (fun _ => ?_))
   | exact ih0 _ _ _ _ _
   | exact ih1 _ _ _ _ _ _ _ _
   | exact ih2 _ _ _ _ _ _ _ _ _ _
   | exact impl_RingHops.mono _ _ _ _ _
   | exact impl_isRing.mono _ _ _
   | exact LeO.none _
   | refine LeO.ite ?_ ?_
   | refine LeO.bind ?_ (fun _ => ?_)
def impl_RingDepends.T14 : Bool × List (List Nat × List Nat) := (true, [([], []), ([], []), ([], []), ([2], [2]), ([1, 3], [1, 3]), ([4], [4]), ([5], [5]), ([6], [6]), ([], []), ([], []), ([9], [9]), ([8, 10], [8, 10]), ([11], [11]), ([12], [12]), ([7, 13], [7, 13]), ([], []), ([], []), ([15, 16], [15, 16]), ([17], [17]), ([18], [18]), ([19], [19]), ([], []), ([], []), ([21, 22], [21, 22]), ([23], [23]), ([24], [24]), ([20, 25], [20, 25]), ([14, 26], [14, 26]), ([27], [27]), ([0, 28], [0, 28]), ([29, 29, 0, 1, 2, 3, 4, 5, 6, 7, 8, 9, 10, 11, 12, 13, 14, 15, 16, 17, 18, 19, 20, 21, 22, 23, 24, 25, 26, 27, 28, 29], [0, 29])])
def impl_RingDepends.B14 : List Nat := [0, 0, 0, 4, 14, 30, 62, 126, 0, 0, 512, 1792, 3840, 7936, 16382, 0, 0, 98304, 229376, 491520, 1015808, 0, 0, 6291456, 14680064, 31457280, 67076096, 134217726, 268435454, 536870911, 1073741823]
theorem impl_RingDepends.tab14 : rtab .any (opsOf Try.f14 14) = impl_RingDepends.T14 := by kernel_rfl
theorem impl_RingDepends.bits14 : waitsOk impl_RingDepends.T14.2 impl_RingDepends.B14 = true := by kernel_rfl
set_option maxHeartbeats 8000000 in
set_option maxRecDepth 100000 in
theorem impl_RingDepends.calls (k : Nat) (a0 : Int) (a1 : Bool) (r : List (S94)) (w : World) (h : impl_RingDepends.f k a0 a1 = some r) :
  Calls Try.prog 14 #[.int .i64 a0, .bool a1] w fun e w' => ∃ v0_ : Value, e = .returned (v0_) ∧ Kd.R k94 94 w' w.heap.size (fun _ => True) v0_ r ∧ Below w.heap.size w w' := by
 have hu94 := Try.underlying94
 have HB := Aside0.mk (Below.refl w.heap.size w)
 have H : ((some (([] : List (S94)) : List (S94))).bind fun y114 => ((impl_isRing.f k a0 ([] : List Int)).bind fun t117 => (if t117 = true then (impl_RingDepends.l0 k a0 a1 y114 a0 0) else (some y114)))) = some r := h
 clear h
 obtain ⟨y114, hy114⟩ : ∃ y_ : List (S94), y_ = (([] : List (S94))) := ⟨_, rfl⟩
 replace H : ((impl_isRing.f k a0 ([] : List Int)).bind fun t117 => (if t117 = true then (impl_RingDepends.l0 k a0 a1 y114 a0 0) else (some y114))) = some r := by first | (rw [hy114]; with_reducible exact H) | (have H2_ := (Option.bind_some _ _).symm.trans H; rw [hy114]; with_reducible exact H2_) | (have H2_ := (Option.bind_some _ _).symm.trans H; with_reducible exact H2_) | with_reducible exact H | (rw [hy114]; exact H) | exact H
 have Ny114 := Aside0.mk hy114
 clear hy114
 replace H := Option.bind_eq_some_iff.mp H
 obtain ⟨t117, A30, H⟩ := H
 try dsimp only at H
 have A3 := Aside0.mk A30
 clear A30
 by_cases c4 : t117 = true
 ·subst c4
  rw [if_pos rfl] at H
  have H' := Aside0.mk H
  clear H
  go_enter Try.func14, Try.ntmps14
  go_wp2_with (first | ((with_reducible refine gate_dst (N := 10) rfl ?_); refine Kd.R_lit k94 _ 94 ?hg (N := 10) ?hd (xs := ([] : List (S94))) (inner := []) (ok := fun _ => True) (okp := fun _ => True) ?hr ?hp (fun _ hk => hk) trivial (Below.refl _ _) (Nat.le_refl _) (by simp) ?_; (case hd => rfl); (case hg => rfl); (case hr => first | (go_simp; done) | (go_simp; rfl)); (case hp => exact (Reps.none _ _)); intro v115 w5 ho6 hb hg_ hnew_; clear hg_ hnew_; (first | rw [← Ny114.out] at ho6 | (simp only [Int.reduceToNat] at ho6; rw [← Ny114.out] at ho6)); have HO116 := Aside0.mk (Kd.R_lower ho6 (bz_ HB.out)); replace HB := Aside0.mk (bs_ HB.out hb); clear hb ho6) | ((with_reducible refine gate_callee (f := 64) rfl ?_); refine gm_ (some 12) Try.func64 #[.int .i64 a0, .slice none 0 0] rfl ?_; (refine (impl_isRing.calls k a0 _ _ ([] : List Int) true _ ?side1 ?side2 A3.out).mono ?_); (case side1 => exact Kd.C_nil _ _); (case side2 => exact Nat.le_refl _); rintro e w' ⟨rfl, ⟨nd, rfl⟩⟩; refine ⟨_, rfl, ?_⟩))
  go_loopg [5, 16] k (fun kq v5 v16 w' => ∃ (x5_1 : List (S94)) (x16_1 : Int), v16 = .int .i64 x16_1 ∧ Aside0 (impl_RingDepends.l0 kq a0 a1 x5_1 a0 x16_1 = some r) ∧ Aside0 (kq ≤ k) ∧ Aside0 (Kd.R k94 94 w' w.heap.size (fun _ => True) v5 x5_1) ∧ Aside0 (Below w.heap.size w w'))
  case atStart => exact ⟨(y114), (0), ef_, H', ⟨Nat.le_refl _⟩, ⟨by (with_reducible repeat (first | apply Kd.R_alloc | apply Kd.R_drewN | apply Kd.R_drew)); exact HO116.out⟩, ⟨bb_ HB.out⟩⟩
  case round =>
   clear H'
   try clear c4
   obtain ⟨x5_1, x16_1, rfl, HA, HK1, HO_5, HB⟩ := hrel
   cases gk with
   | zero => exact absurd HA.out (by simp [impl_RingDepends.l0])
   | succ k1 =>
    have H := HA.out
    clear HA
    simp only [impl_RingDepends.l0] at H
    by_cases c7 : x16_1 < a0
    ·rw [if_pos c7] at H
     have c7b0 : decide (x16_1 < a0) = true := decide_eq_true c7
     clear c7
     have H' := Aside0.mk H
     clear H
     go_wp2
     go_loopg [5, 20] k1 (fun kq v5 v20 w' => ∃ (x5_2 : List (S94)) (x20_2 : Int), v20 = .int .i64 x20_2 ∧ Aside0 (impl_RingDepends.l1 kq a0 a1 x5_2 x16_1 a0 x16_1 a0 x20_2 = some r) ∧ Aside0 (kq ≤ k1) ∧ Aside0 (Kd.R k94 94 w' w.heap.size (fun _ => True) v5 x5_2) ∧ Aside0 (Below w.heap.size w w'))
     case atStart => exact ⟨(x5_1), (0), ef_, H', ⟨Nat.le_refl _⟩, ⟨by (with_reducible repeat (first | apply Kd.R_alloc | apply Kd.R_drewN | apply Kd.R_drew)); exact HO_5.out⟩, ⟨bb_ HB.out⟩⟩
     case round =>
      clear H'
      try clear c4
      try clear c7
      try clear c7b0
      obtain ⟨x5_2, x20_2, rfl, HA, HK2, HO_5, HB⟩ := hrel
      cases gk with
      | zero => exact absurd HA.out (by simp [impl_RingDepends.l1])
      | succ k2 =>
       have H := HA.out
       clear HA
       simp only [impl_RingDepends.l1] at H
       by_cases c8 : x20_2 < a0
       ·rw [if_pos c8] at H
        have c8b0 : decide (x20_2 < a0) = true := decide_eq_true c8
        clear c8
        replace H := Option.bind_eq_some_iff.mp H
        obtain ⟨t121, A90, H⟩ := H
        try dsimp only at H
        have A9 := Aside0.mk A90
        clear A90
        have H' := Aside0.mk H
        clear H
        go_wp2_with (first | ((with_reducible refine gate_callee (f := 65) rfl ?_); refine gm_ (some 27) Try.func65 #[.int .i64 a0, .int .i64 x16_1, .int .i64 x20_2, .bool a1] rfl ?_; (with_reducible refine (impl_RingHops.calls k2 a0 x16_1 x20_2 a1 t121 _ A9.out).mono ?_); rintro e w10 ⟨v122, rfl, ho0, hb⟩; refine ⟨_, rfl, ?_⟩; replace HO_5 := Aside0.mk (Kd.R_below (ra_ HO_5.out) hb); have HO123 := Aside0.mk (Kd.R_lower ho0 (bz_ HB.out)); replace HB := Aside0.mk (bs_ HB.out hb); (try clear hb); (try clear ho0)))
        go_loopg [5, 9] k2 (fun kq v5 v9 w' => ∃ (x5_3 : List (S94)) (x9_3 : Int), v9 = .int .i64 x9_3 ∧ Aside0 (impl_RingDepends.l2 kq a0 a1 x5_3 x16_1 t121 x9_3 a0 x16_1 a0 x20_2 = some r) ∧ Aside0 (kq ≤ k2) ∧ Aside0 (Kd.R k94 94 w' w.heap.size (fun _ => True) v5 x5_3) ∧ Aside0 (Kd.R k92 92 w' w.heap.size (fun _ => True) v122 t121) ∧ Aside0 (Below w.heap.size w w'))
        case atStart => exact ⟨(x5_2), (1), ef_, H', ⟨Nat.le_refl _⟩, ⟨by (with_reducible repeat (first | apply Kd.R_alloc | apply Kd.R_drewN | apply Kd.R_drew)); exact HO_5.out⟩, ⟨by (with_reducible repeat (first | apply Kd.R_alloc | apply Kd.R_drewN | apply Kd.R_drew)); exact HO123.out⟩, ⟨bb_ HB.out⟩⟩
        case round =>
         clear H'
         try clear c4
         try clear c7
         try clear c7b0
         try clear c8
         try clear c8b0
         obtain ⟨x5_3, x9_3, rfl, HA, HK3, HO_5, HO_8, HB⟩ := hrel
         cases gk with
         | zero => exact absurd HA.out (by simp [impl_RingDepends.l2])
         | succ k3 =>
          have H := HA.out
          clear HA
          simp only [impl_RingDepends.l2] at H
          by_cases c11 : x9_3 < (t121.length : Int)
          ·rw [if_pos c11] at H
           have c11b0 : decide (x9_3 < (t121.length : Int)) = true := decide_eq_true c11
           clear c11
           obtain ⟨ji12, hji12⟩ : ∃ j_ : Int, (wrap64 (x9_3 - 1)) = j_ := ⟨_, rfl⟩
           replace H : (if 0 ≤ (ji12) then (if (ji12) < (t121.length : Int) then (if 0 ≤ x9_3 then (if x5_3.length < 8796093022208 then (impl_RingDepends.l2 k3 a0 a1 (x5_3 ++ [(⟨wrap64 ((wrap64 (((rd_T92 t121 (ji12)).f1) * 64)) + ((rd_T92 t121 (ji12)).f0)), wrap64 ((wrap64 (((rd_T92 t121 x9_3).f1) * 64)) + ((rd_T92 t121 x9_3).f0))⟩ : S94)]) x16_1 t121 (wrap64 (x9_3 + 1)) a0 x16_1 a0 x20_2) else (none)) else (none)) else (none)) else (none)) = some r := by first | (rw [hji12] at H; exact H) | (simp only [hji12] at H ⊢; exact H)
           have hji12w : (IntKind.i64.wrap (x9_3 - 1)) = ji12 := (i64_w _).trans hji12
           by_cases c13 : 0 ≤ (ji12)
           ·rw [if_pos c13] at H
            have c13b0 : decide (0 ≤ (ji12)) = true := decide_eq_true c13
            clear c13
            by_cases c14 : (ji12) < (t121.length : Int)
            ·rw [if_pos c14] at H
             have c14b0 : decide ((ji12) < (t121.length : Int)) = true := decide_eq_true c14
             clear c14
             by_cases c15 : 0 ≤ x9_3
             ·rw [if_pos c15] at H
              have c15b0 : decide (0 ≤ x9_3) = true := decide_eq_true c15
              clear c15
              by_cases c16 : x5_3.length < 8796093022208
              ·rw [if_pos c16] at H
               have LMc16 := Aside0.mk c16
               clear c16
               obtain ⟨y128, hy128⟩ : ∃ y_ : List (S94), y_ = (x5_3 ++ [(⟨wrap64 ((wrap64 (((rd_T92 t121 (ji12)).f1) * 64)) + ((rd_T92 t121 (ji12)).f0)), wrap64 ((wrap64 (((rd_T92 t121 x9_3).f1) * 64)) + ((rd_T92 t121 x9_3).f0))⟩ : S94)]) := ⟨_, rfl⟩
               replace H : (impl_RingDepends.l2 k3 a0 a1 y128 x16_1 t121 (wrap64 (x9_3 + 1)) a0 x16_1 a0 x20_2) = some r := by first | (rw [hy128]; with_reducible exact H) | (have H2_ := (Option.bind_some _ _).symm.trans H; rw [hy128]; with_reducible exact H2_) | (have H2_ := (Option.bind_some _ _).symm.trans H; with_reducible exact H2_) | with_reducible exact H | (rw [hy128]; exact H) | exact H
               have Ny128 := Aside0.mk hy128
               clear hy128
               have H' := Aside0.mk H
               clear H
               obtain ⟨Ao17, co17, eo17⟩ := Kd.R_slice HO_8.out
               subst eo17
               try go_wp2
               have n0_ := Aside0.mk (Kd.R_drew HO_5.out)
               have n1_ := Aside0.mk (Kd.R_drew HO_8.out)
               have n2_ := Aside0.mk (below_drew1 HB.out)
               clear HO_5
               clear HO_8
               clear HB
               have HO_5 := n0_
               have HO_8 := n1_
               have HB := n2_
               clear n0_ n1_ n2_
               have p124 : 0 ≤ ((ji12) : Int) := of_decide_eq_true dg_
               have q124 : (ji12) < (t121.length : Int) := of_decide_eq_true dg_
               obtain ⟨ad124, e124, hx124_0, hx124_1⟩ := at_T92 (Kd.R_reads' HO_8.out).2.2 (ji12) p124 q124
               cases e124
               replace p124 := eq_true p124
               replace q124 := eq_true q124
               have p125 : 0 ≤ ((ji12) : Int) := of_decide_eq_true dg_
               have q125 : (ji12) < (t121.length : Int) := of_decide_eq_true dg_
               obtain ⟨ad125, e125, hx125_0, hx125_1⟩ := at_T92 (Kd.R_reads' HO_8.out).2.2 (ji12) p125 q125
               obtain rfl : ad124 = ad125 := (by injection e125)
               replace p125 := eq_true p125
               replace q125 := eq_true q125
               have p126 : 0 ≤ (x9_3 : Int) := of_decide_eq_true dg_
               have q126 : x9_3 < (t121.length : Int) := of_decide_eq_true dg_
               obtain ⟨ad126, e126, hx126_0, hx126_1⟩ := at_T92 (Kd.R_reads' HO_8.out).2.2 x9_3 p126 q126
               obtain rfl : ad124 = ad126 := (by injection e126)
               replace p126 := eq_true p126
               replace q126 := eq_true q126
               have p127 : 0 ≤ (x9_3 : Int) := of_decide_eq_true dg_
               have q127 : x9_3 < (t121.length : Int) := of_decide_eq_true dg_
               obtain ⟨ad127, e127, hx127_0, hx127_1⟩ := at_T92 (Kd.R_reads' HO_8.out).2.2 x9_3 p127 q127
               obtain rfl : ad124 = ad127 := (by injection e127)
               replace p127 := eq_true p127
               replace q127 := eq_true q127
               refine start_ (n := 31) (S := fun w' => w'.cell? (ad124.add (((ji12)).toNat * 2)) = some (.int .i64 ((rd_T92 t121 (ji12)).f0)) ∧ w'.cell? ⟨(ad124.add (((ji12)).toNat * 2)).block, (ad124.add (((ji12)).toNat * 2)).off + 1, none⟩ = some (.int .i64 ((rd_T92 t121 (ji12)).f1)) ∧ w'.cell? (ad124.add (((ji12)).toNat * 2)) = some (.int .i64 ((rd_T92 t121 (ji12)).f0)) ∧ w'.cell? ⟨(ad124.add (((ji12)).toNat * 2)).block, (ad124.add (((ji12)).toNat * 2)).off + 1, none⟩ = some (.int .i64 ((rd_T92 t121 (ji12)).f1)) ∧ w'.cell? (ad124.add ((x9_3).toNat * 2)) = some (.int .i64 ((rd_T92 t121 x9_3).f0)) ∧ w'.cell? ⟨(ad124.add ((x9_3).toNat * 2)).block, (ad124.add ((x9_3).toNat * 2)).off + 1, none⟩ = some (.int .i64 ((rd_T92 t121 x9_3).f1)) ∧ w'.cell? (ad124.add ((x9_3).toNat * 2)) = some (.int .i64 ((rd_T92 t121 x9_3).f0)) ∧ w'.cell? ⟨(ad124.add ((x9_3).toNat * 2)).block, (ad124.add ((x9_3).toNat * 2)).off + 1, none⟩ = some (.int .i64 ((rd_T92 t121 x9_3).f1))) (ds := [28, 29]) #[false, false, false, false, false, false, false, false, false, false, false, false, false, false, false, false, false, false, false, false, false, false, false, false, false, false, false, false, false, false, false] (by kernel_rfl) rfl rfl ⟨hx124_0, hx124_1, hx125_0, hx125_1, hx126_0, hx126_1, hx127_0, hx127_1⟩ (fun hHeld => ?_); refine with_tabW impl_RingDepends.tab14 impl_RingDepends.bits14 (fun HT_ HW_ => ?_)
               generalize wr.drew = w18 at HO_5 HO_8 HB hx124_0 hx124_1 hx125_0 hx125_1 hx126_0 hx126_1 hx127_0 hx127_1 hHeld ⊢
               refine pu_ 0 34 (bt_ 31 1) HT_ ?_
               refine pu_ 1 35 (bt_ 31 3) HT_ ?_
               refine pu_ 2 36 (bt_ 31 7) HT_ ?_
               refine pu_ 3 37 (bt_ 31 15) HT_ ?_
               refine pu_ 4 38 (bt_ 31 31) HT_ ?_
               refine pu_ 5 39 (bt_ 31 63) HT_ ?_
               refine pu_ 8 42 (bt_ 31 319) HT_ ?_
               refine pu_ 9 43 (bt_ 31 831) HT_ ?_
               refine pu_ 10 44 (bt_ 31 1855) HT_ ?_
               refine pu_ 11 45 (bt_ 31 3903) HT_ ?_
               refine pu_ 12 46 (bt_ 31 7999) HT_ ?_
               refine pu_ 15 49 (bt_ 31 40767) HT_ ?_
               refine pu_ 16 50 (bt_ 31 106303) HT_ ?_
               refine pu_ 17 51 (bt_ 31 237375) HT_ ?_
               refine pu_ 18 52 (bt_ 31 499519) HT_ ?_
               refine pu_ 21 55 (bt_ 31 2596671) HT_ ?_
               refine pu_ 22 56 (bt_ 31 6790975) HT_ ?_
               refine pu_ 23 57 (bt_ 31 15179583) HT_ ?_
               refine pu_ 24 58 (bt_ 31 31956799) HT_ ?_
               refine take_ (i := 6) (N := some 40) (v := ?_) (a' := ?_) (bt_ 31 31956863) rfl rfl (take_ofW HT_.out HW_.out (by kernel_rfl)) (fun _ _ _ h => h) (Or.inl ⟨by rfl, ?_⟩) hHeld ?_ ?_
               rotate_left
               ·rintro w' ⟨s0, s1, s2, s3, s4, s5, s6, s7⟩
                go_simp
                with_reducible rfl
               rotate_left
               ·simp only [Act.put, List.setIfInBounds_toArray, List.set_cons_zero, List.set_cons_succ, i64_w, i32_w]
                rfl
               refine pu_ 7 41 (bt_ 31 31956991) HT_ ?_
               refine take_ (i := 13) (N := some 47) (v := ?_) (a' := ?_) (bt_ 31 31965183) rfl rfl (take_ofW HT_.out HW_.out (by kernel_rfl)) (fun _ _ _ h => h) (Or.inl ⟨by rfl, ?_⟩) hHeld ?_ ?_
               rotate_left
               ·rintro w' ⟨s0, s1, s2, s3, s4, s5, s6, s7⟩
                go_simp
                with_reducible rfl
               rotate_left
               ·simp only [Act.put, List.setIfInBounds_toArray, List.set_cons_zero, List.set_cons_succ, i64_w, i32_w]
                rfl
               refine pu_ 14 48 (bt_ 31 31981567) HT_ ?_
               refine take_ (i := 19) (N := some 53) (v := ?_) (a' := ?_) (bt_ 31 32505855) rfl rfl (take_ofW HT_.out HW_.out (by kernel_rfl)) (fun _ _ _ h => h) (Or.inl ⟨by rfl, ?_⟩) hHeld ?_ ?_
               rotate_left
               ·rintro w' ⟨s0, s1, s2, s3, s4, s5, s6, s7⟩
                go_simp
                with_reducible rfl
               rotate_left
               ·simp only [Act.put, List.setIfInBounds_toArray, List.set_cons_zero, List.set_cons_succ, i64_w, i32_w]
                rfl
               refine pu_ 20 54 (bt_ 31 33554431) HT_ ?_
               refine take_ (i := 25) (N := some 59) (v := ?_) (a' := ?_) (bt_ 31 67108863) rfl rfl (take_ofW HT_.out HW_.out (by kernel_rfl)) (fun _ _ _ h => h) (Or.inl ⟨by rfl, ?_⟩) hHeld ?_ ?_
               rotate_left
               ·rintro w' ⟨s0, s1, s2, s3, s4, s5, s6, s7⟩
                go_simp
                with_reducible rfl
               rotate_left
               ·simp only [Act.put, List.setIfInBounds_toArray, List.set_cons_zero, List.set_cons_succ, i64_w, i32_w]
                rfl
               refine pu_ 26 60 (bt_ 31 134217727) HT_ ?_
               refine pu_ 27 61 (bt_ 31 268435455) HT_ ?_
               refine last_ (i := 28) (N := some 62) (bt_ 31 536870911) rfl rfl (one_of HT_.out (by kernel_rfl)) (by decide) (fun K hK => ?_)
               refine value_ (w1 := ?_) (v := ?_) (by rfl) rfl ?_ ?_
               rotate_left 2
               ·go_simp
                constructor
                ·rfl
                ·rfl
               refine hK.out _ _ ?_
               clear hK K
               refine norm_ (a' := ?_) ?_ ?_
               rotate_left
               ·show Act.put _ (some 62) _ = _
                simp only [Act.put, List.setIfInBounds_toArray, List.set_cons_zero, List.set_cons_succ, i64_w, i32_w]
                rfl
               refine last_ (i := 29) (N := some 63) (bt_ 31 1073741823) rfl rfl (one_of HT_.out (by kernel_rfl)) (by decide) (fun K hK => ?_)
               refine Kd.R_append_step k94 (w0 := w) w.heap.size (by rfl) (.tmp 34) (.tmp 62) 22 94 (.agg #[(.int .i64 0), (.int .i64 0)]) 16 rfl Try.underlying22 info94 rfl (by decide) (by omega) u5 x5_3 (⟨wrap64 ((wrap64 (((rd_T92 t121 (ji12)).f1) * 64)) + ((rd_T92 t121 (ji12)).f0)), wrap64 ((wrap64 (((rd_T92 t121 x9_3).f1) * 64)) + ((rd_T92 t121 x9_3).f0))⟩ : S94) [.int .i64 (wrap64 ((wrap64 (((rd_T92 t121 (ji12)).f1) * 64)) + ((rd_T92 t121 (ji12)).f0))), .int .i64 (wrap64 ((wrap64 (((rd_T92 t121 x9_3).f1) * 64)) + ((rd_T92 t121 x9_3).f0)))] (fun _ => True) (fun _ => False) rfl rfl ?aP (fun _ hk => hk.elim) ?aF ?aO ?aB ?aS ?aL ?_
               (case aP => exact k94_mkM _ _ _ (⟨wrap64 ((wrap64 (((rd_T92 t121 (ji12)).f1) * 64)) + ((rd_T92 t121 (ji12)).f0)), wrap64 ((wrap64 (((rd_T92 t121 x9_3).f1) * 64)) + ((rd_T92 t121 x9_3).f0))⟩ : S94))
               (case aB => exact (by repeat (first | (with_reducible first | exact HB.out | apply below_alloc | apply pw_below_drewN | apply below_drew1) | exact HB.out)))
               (case aF => exact (fun _ _ => trivial))
               (case aO => exact (ra_ HO_5.out))
               (case aS => exact (bz_ HB.out))
               (case aL => have := LMc16.out; omega)
               intro v129 w19 ho hb hg hat
               rw [← Ny128.out] at ho
               have n0_ := Aside0.mk (Kd.R_over' (ra_ HO_8.out) (Kd.R_typed (ra_ HO_5.out)) (by decide) hg)
               have n1_ := Aside0.mk (hb)
               have n2_ := Aside0.mk (ho)
               clear HO_8
               clear HB
               clear HO_5
               have HO_8 := n0_
               have HB := n1_
               have HO130 := n2_
               clear n0_ n1_ n2_
               clear ho hb hg hat
               refine hK.out _ _ ?_
               clear hK K
               refine norm_ (a' := ?_) ?_ ?_
               rotate_left
               ·show Act.put _ (some 63) _ = _
                simp only [Act.put, List.setIfInBounds_toArray, List.set_cons_zero, List.set_cons_succ, i64_w, i32_w]
                rfl
               refine pu_ 30 5 (bt_ 31 2147483647) HT_ ?_
               refine done_ (done_of HT_.out (by kernel_rfl)) ?_
               try go_wp2
               go_roundg k3
               case measure => have := HK1.out; have := HK2.out; have := HK3.out; omega
               case rel => exact ⟨(y128), (wrap64 (x9_3 + 1)), ef_, H', ⟨by have := HK1.out; have := HK2.out; have := HK3.out; omega⟩, ⟨by (with_reducible repeat (first | apply Kd.R_alloc | apply Kd.R_drewN | apply Kd.R_drew)); exact HO130.out⟩, ⟨by (with_reducible repeat (first | apply Kd.R_alloc | apply Kd.R_drewN | apply Kd.R_drew)); exact HO_8.out⟩, ⟨bb_ HB.out⟩⟩
              ·rw [if_neg c16] at H
               exact absurd H (by simp)
             ·rw [if_neg c15] at H
              exact absurd H (by simp)
            ·rw [if_neg c14] at H
             exact absurd H (by simp)
           ·rw [if_neg c13] at H
            exact absurd H (by simp)
          ·rw [if_neg c11] at H
           have c11b0 : decide (x9_3 < (t121.length : Int)) = false := decide_eq_false c11
           clear c11
           have H' := Aside0.mk H
           clear H
           obtain ⟨Ao20, co20, eo20⟩ := Kd.R_slice HO_8.out
           subst eo20
           go_wp2
           go_roundg k3
           case measure => have := HK1.out; have := HK2.out; have := HK3.out; omega
           case rel => exact ⟨(x5_3), (wrap64 (x20_2 + 1)), ef_, H', ⟨by have := HK1.out; have := HK2.out; have := HK3.out; omega⟩, ⟨by (with_reducible repeat (first | apply Kd.R_alloc | apply Kd.R_drewN | apply Kd.R_drew)); exact HO_5.out⟩, ⟨bb_ HB.out⟩⟩
       ·rw [if_neg c8] at H
        have c8b0 : decide (x20_2 < a0) = false := decide_eq_false c8
        clear c8
        have H' := Aside0.mk H
        clear H
        go_wp2
        go_roundg k2
        case measure => have := HK1.out; have := HK2.out; omega
        case rel => exact ⟨(x5_2), (wrap64 (x16_1 + 1)), ef_, H', ⟨by have := HK1.out; have := HK2.out; omega⟩, ⟨by (with_reducible repeat (first | apply Kd.R_alloc | apply Kd.R_drewN | apply Kd.R_drew)); exact HO_5.out⟩, ⟨bb_ HB.out⟩⟩
    ·rw [if_neg c7] at H
     have c7b0 : decide (x16_1 < a0) = false := decide_eq_false c7
     clear c7
     replace H := Option.bind_eq_some_iff.mp H
     obtain ⟨t118, A210, H⟩ := H
     try dsimp only at H
     have A21 := Aside0.mk A210
     clear A210
     obtain rfl := Option.some.inj H
     obtain ⟨Ao22, co22, eo22⟩ := Kd.R_slice HO_5.out
     subst eo22
     go_wp2_with (first | ((with_reducible refine gate_callee (f := 66) rfl ?_); refine gm_ (some 67) Try.func66 #[.slice Ao22 x5_1.length co22] rfl ?_; (with_reducible refine (impl_arranged.calls (fun k_ => some k_ = (.slice Ao22 x5_1.length co22 : Value).ownBlock) (.slice Ao22 x5_1.length co22) x5_1 t118 w _ ?side1 ?side2 A21.out).mono ?_); (case side1 => repeat (first | (with_reducible first | exact HB.out | apply below_alloc | apply pw_below_drewN | apply below_drew1) | exact HB.out)); (case side2 => exact Kd.R_tight rfl HO_5.out); rintro e w23 ⟨v119, rfl, ho0, hb, hkp⟩; refine ⟨_, rfl, ?_⟩; have n0_ := Aside0.mk (Kd.R_mono (ok' := fun k_ => True) ho0 (fun k_ hk_ => trivial)); have n1_ := Aside0.mk (hb); clear HB; clear HO_5; have HO120 := n0_; have HB := n1_; clear n0_ n1_; (try clear hb); (try clear hkp); (try clear ho0)))
     go_ret
     exact ⟨_, fin_, by (with_reducible repeat (first | apply Kd.R_alloc | apply Kd.R_drewN | apply Kd.R_drew)); exact HO120.out, bb_ HB.out⟩
 ·replace c4 := Bool.eq_false_iff.mpr c4
  subst c4
  rw [if_neg (show ¬ (false = true) by decide)] at H
  obtain rfl := Option.some.inj H
  go_enter Try.func14, Try.ntmps14
  go_wp2_with (first | ((with_reducible refine gate_dst (N := 10) rfl ?_); refine Kd.R_lit k94 _ 94 ?hg (N := 10) ?hd (xs := ([] : List (S94))) (inner := []) (ok := fun _ => True) (okp := fun _ => True) ?hr ?hp (fun _ hk => hk) trivial (Below.refl _ _) (Nat.le_refl _) (by simp) ?_; (case hd => rfl); (case hg => rfl); (case hr => first | (go_simp; done) | (go_simp; rfl)); (case hp => exact (Reps.none _ _)); intro v115 w24 ho25 hb hg_ hnew_; clear hg_ hnew_; (first | rw [← Ny114.out] at ho25 | (simp only [Int.reduceToNat] at ho25; rw [← Ny114.out] at ho25)); have HO116 := Aside0.mk (Kd.R_lower ho25 (bz_ HB.out)); replace HB := Aside0.mk (bs_ HB.out hb); clear hb ho25) | ((with_reducible refine gate_callee (f := 64) rfl ?_); refine gm_ (some 12) Try.func64 #[.int .i64 a0, .slice none 0 0] rfl ?_; (refine (impl_isRing.calls k a0 _ _ ([] : List Int) false _ ?side1 ?side2 A3.out).mono ?_); (case side1 => exact Kd.C_nil _ _); (case side2 => exact Nat.le_refl _); rintro e w' ⟨rfl, ⟨nd, rfl⟩⟩; refine ⟨_, rfl, ?_⟩))
  go_ret
  exact ⟨_, fin_, by (with_reducible repeat (first | apply Kd.R_alloc | apply Kd.R_drewN | apply Kd.R_drew)); exact HO116.out, bb_ HB.out⟩

/-! ### impl_compareDepends: function 105 -/
def impl_compareDepends.f (a0_0 : Int) (a0_1 : Int) (a1_0 : Int) (a1_1 : Int) : Option (Int) := if a0_0 = a1_0 then (some (wrap64 (a0_1 - a1_1))) else (some (wrap64 (a0_0 - a1_0)))
theorem impl_compareDepends.e0 {P : Prop} (h : P := by
 go_enter Try.func105, Try.ntmps105
 go_wp2_with (first | ((with_reducible refine gate_dst (N := 2) rfl ?_); refine box_event ?hg (N := 2) ?hd (cs := #[.int .i64 a0_0, .int .i64 a0_1]) (t := 94) ?hr ?_; (case hd => rfl); (case hg => rfl); (case hr => first | (go_simp; done) | (go_simp; rfl)); intro gb131 hg w_0 hbox hb; have BK131 := Aside0.mk (hbox); have GW131 := Aside0.mk ((by rw [hg]; exact (bz_ HB.out) : w.heap.size ≤ gb131)); have GE131 := Aside0.mk ((by rw [hg]; exact (bz_ HB.out) : w.heap.size ≤ gb131)); replace HB := Aside0.mk (bs_ HB.out hb); clear hb hbox hg) | ((with_reducible refine gate_dst (N := 3) rfl ?_); refine box_event ?hg (N := 3) ?hd (cs := #[.int .i64 a1_0, .int .i64 a1_1]) (t := 94) ?hr ?_; (case hd => rfl); (case hg => rfl); (case hr => first | (go_simp; done) | (go_simp; rfl)); intro gb132 hg w_0 hbox hb; have BK132 := Aside0.mk (hbox); have GW132 := Aside0.mk ((by rw [hg]; exact (bz_ HB.out) : w.heap.size ≤ gb132)); have GE132 := Aside0.mk ((by rw [hg]; exact (bz_ HB.out) : w.heap.size ≤ gb132)); replace HB := Aside0.mk (bs_ HB.out hb); have NB131_132 := Aside0.mk ((by rw [hg]; exact Nat.ne_of_lt (bl_ BK131.out) : gb131 ≠ gb132)); have NB132_131 := Aside0.mk ((by rw [hg]; exact Nat.ne_of_gt (bl_ BK131.out) : gb132 ≠ gb131)); replace BK131 := Aside0.mk (bk_ BK131.out hb); clear hb hbox hg; have hnb_ := NB131_132.out; have hnc_ := NB132_131.out; obtain ⟨hcz_0, hcz_1, hfz_0, hfz_1⟩ := cz2_ BK131.out; obtain ⟨hcz__0, hcz__1, hfz__0, hfz__1⟩ := cz2_ BK132.out))
 go_ret
 exact ⟨fin_, bb_ HB.out⟩) : P := h
set_option maxHeartbeats 8000000 in
set_option maxRecDepth 100000 in
theorem impl_compareDepends.calls (a0_0 : Int) (a0_1 : Int) (a1_0 : Int) (a1_1 : Int) (r : Int) (w : World) (h : impl_compareDepends.f a0_0 a0_1 a1_0 a1_1 = some r) :
  Calls Try.prog 105 #[.agg #[.int .i64 a0_0, .int .i64 a0_1], .agg #[.int .i64 a1_0, .int .i64 a1_1]] w fun e w' => e = .returned (.int .i64 r) ∧ Below w.heap.size w w' := by
 have hu94 := Try.underlying94
 have HB := Aside0.mk (Below.refl w.heap.size w)
 have H : (if a0_0 = a1_0 then (some (wrap64 (a0_1 - a1_1))) else (some (wrap64 (a0_0 - a1_0)))) = some r := h
 clear h
 by_cases c3 : a0_0 = a1_0
 ·rw [if_pos c3] at H
  have c3b0 : (a0_0 == a1_0) = true := beq_iff_eq.mpr c3
  have c3b1 : (a0_0 != a1_0) = false := bne_eq_false_iff_eq.mpr c3
  clear c3
  obtain rfl := Option.some.inj H
  exact impl_compareDepends.e0
 ·rw [if_neg c3] at H
  have c3b0 : (a0_0 == a1_0) = false := beq_eq_false_iff_ne.mpr c3
  have c3b1 : (a0_0 != a1_0) = true := bne_iff_ne.mpr c3
  obtain rfl := Option.some.inj H
  exact impl_compareDepends.e0

end Go.Proofs.Ytimdefbpoddoaaa.PFnRings
-- thin
