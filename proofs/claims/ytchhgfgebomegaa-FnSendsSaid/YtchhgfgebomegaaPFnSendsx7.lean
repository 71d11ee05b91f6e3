/- The law's functions as plain functions, and their calls. No condition. -/
import Derived.Test.YtchhgfgebomegaaPFnSendsx0
import Derived.Test.YtchhgfgebomegaaPFnSendsx4
import Derived.Test.YtchhgfgebomegaaPFnSendsx6
import Derived.Test.YtchhgfgebomegaaPFnSendsx71
namespace Go.Proofs.Ytchhgfgebomegaa.PFnSends
open Go.RowKit Go.Proofs.YtchhgfgebomegaaW.PrintWords Go.Proofs.YtchhgfgebomegaaW.PrintLast Go.Proofs.YtchhgfgebomegaaW.PrintMore
attribute [local go_sem] max2_int min2_int max_two min_two max_three min_three max_four min_four
set_option linter.unusedVariables false
set_option maxHeartbeats 8000000
set_option maxRecDepth 100000
set_option linter.unusedSimpArgs false

/-! ### impl_NetNew: function 6 -/
def impl_NetNew.l0 : Nat → Int → Int → Int → Int → List Int → List Int → List Int → List (List (S79)) → List Int → List Int → List (List (S79)) → List (List (S79)) → Int → Option (Int × Int × List Int × List Int × List Int × (List (List (S79))) × List Int × List Int × (List (List (S79))) × (List (List (S79))) × Int × Bool)
 | 0, _, _, _, _, _, _, _, _, _, _, _, _, _ => none
 | k + 1, x35, x36, x328000, x328001, x328002, x328003, x328004, x328005, x328006, x328007, x328008, x328009, x328010 => if x36 < x35 then (if x328006.length < 17592186044416 then (impl_NetNew.l0 k x35 (wrap64 (x36 + 1)) x328000 x328001 x328002 x328003 x328004 x328005 (x328006 ++ [(-1)]) x328007 x328008 x328009 x328010) else (none)) else (some (x328000, x328001, x328002, x328003, x328004, x328005, x328006, x328007, x328008, x328009, x328010, true))
def impl_NetNew.f (k : Nat) (a0_0 : Int) (a0_1 : Int) (l0_2 : List Int) (l1_0 : List Int) (l1_1 : List Int) : Option (Int × Int × List Int × List Int × List Int × (List (List (S79))) × List Int × List Int × (List (List (S79))) × (List (List (S79))) × Int × Bool) := (impl_ClassesOk.f k a0_0 a0_1 l0_2 l1_0 l1_1).bind fun t311 => (if t311 = true then ((impl_NodeCount.f a0_0 a0_1).bind fun t312 => ((impl_copyMesh.f a0_0 a0_1 l0_2).bind fun bt313 => ((impl_copyClasses.f l1_0 l1_1).bind fun bt318 => (if 0 ≤ (wrap64 (5 * t312)) then (if (wrap64 (5 * t312) : Int).toNat ≤ 35184372088832 then (if 0 ≤ (wrap64 (10 * t312)) then (if (wrap64 (10 * t312) : Int).toNat ≤ 11728124029610 then (if 0 ≤ t312 then (if (t312 : Int).toNat ≤ 11728124029610 then (impl_NetNew.l0 k (wrap64 (10 * t312)) 0 bt313.1 bt313.2.1 bt313.2.2 bt318.1 bt318.2 (List.replicate (wrap64 (10 * t312) : Int).toNat []) ([] : List Int) (List.replicate (wrap64 (5 * t312) : Int).toNat 0) (List.replicate (t312 : Int).toNat []) (List.replicate (t312 : Int).toNat []) 0) else (none)) else (none)) else (none)) else (none)) else (none)) else (none))))) else (some (0, 0, ([] : List Int), ([] : List Int), ([] : List Int), ([] : List (List (S79))), ([] : List Int), ([] : List Int), ([] : List (List (S79))), ([] : List (List (S79))), 0, false)))
theorem impl_NetNew.mono_l : ∀ k, (∀ y0 y1 y2 y3 y4 y5 y6 y7 y8 y9 y10 y11 y12, LeO (impl_NetNew.l0 k y0 y1 y2 y3 y4 y5 y6 y7 y8 y9 y10 y11 y12) (impl_NetNew.l0 (k + 1) y0 y1 y2 y3 y4 y5 y6 y7 y8 y9 y10 y11 y12))
 | 0 => fun _ _ _ _ _ _ _ _ _ _ _ _ _ r h => by simp [impl_NetNew.l0] at h
 | k + 1 => by
  have ih0 := impl_NetNew.mono_l k
  ·intro y0 y1 y2 y3 y4 y5 y6 y7 y8 y9 y10 y11 y12
   unfold impl_NetNew.l0
   repeat' (with_reducible first | exact ih0 .. | exact impl_ClassesOk.mono .. | exact LeO.refl .. | exact LeO.none .. | refine LeO.ite ?_ ?_ | refine LeO.bind ?_ (fun _ => ?_))
theorem impl_NetNew.mono : ∀ a0 a1 a2 a3 a4 k, LeO (impl_NetNew.f k a0 a1 a2 a3 a4) (impl_NetNew.f (k + 1) a0 a1 a2 a3 a4) := by
 intro a0 a1 a2 a3 a4 k
 have ih0 := impl_NetNew.mono_l k
 unfold impl_NetNew.f
 repeat' (with_reducible first | exact ih0 .. | exact impl_ClassesOk.mono .. | exact LeO.refl .. | exact LeO.none .. | refine LeO.ite ?_ ?_ | refine LeO.bind ?_ (fun _ => ?_))
def impl_NetNew.T4 : Bool × List (List Nat × List Nat) := (true, [([], []), ([0], [0]), ([], []), ([2, 1], [2]), ([], []), ([4], [4]), ([5, 5], [5]), ([1, 3, 6], [1, 3, 6]), ([], []), ([8, 7, 3, 0, 1, 2, 3, 4, 5, 6, 7, 8], [7, 8])])
def impl_NetNew.B4 : List Nat := [0, 1, 0, 7, 0, 16, 48, 127, 0, 511]
theorem impl_NetNew.tab4 : rtab .any (opsOf Try.f6 4) = impl_NetNew.T4 := by kernel_rfl
theorem impl_NetNew.bits4 : waitsOk impl_NetNew.T4.2 impl_NetNew.B4 = true := by kernel_rfl
def impl_NetNew.T5 : Bool × List (List Nat × List Nat) := (true, [([], []), ([0], [0]), ([1, 1], [1]), ([], []), ([3, 3], [3]), ([], []), ([5, 5], [5]), ([0, 1, 2], []), ([7, 2, 0, 1, 2], [2, 7]), ([0, 1, 2, 3, 4, 7, 8], []), ([9, 4, 8, 0, 1, 2, 3, 4, 7, 8], [4, 9]), ([0, 1, 2, 3, 4, 5, 6, 7, 8, 9, 10], []), ([11, 6, 10, 0, 1, 2, 3, 4, 5, 6, 7, 8, 9, 10], [6, 11])])
def impl_NetNew.B5 : List Nat := [0, 1, 3, 0, 8, 0, 32, 7, 135, 415, 927, 2047, 4095]
theorem impl_NetNew.tab5 : rtab .any (opsOf Try.f6 5) = impl_NetNew.T5 := by kernel_rfl
theorem impl_NetNew.bits5 : waitsOk impl_NetNew.T5.2 impl_NetNew.B5 = true := by kernel_rfl
theorem impl_NetNew.calls (k : Nat) (a0_0 : Int) (a0_1 : Int) (A0_2 : Option Addr) (c0_2 : Nat) (l0_2 : List Int) (A1_0 : Option Addr) (c1_0 : Nat) (l1_0 : List Int) (A1_1 : Option Addr) (c1_1 : Nat) (l1_1 : List Int) (r1 : Int) (r2 : Int) (r3 : List Int) (r4 : List Int) (r5 : List Int) (r6 : List (List (S79))) (r7 : List Int) (r8 : List Int) (r9 : List (List (S79))) (r10 : List (List (S79))) (r11 : Int) (r12 : Bool) (w : World) (hr0_2 : Kd.C (Kd.int .i64) w A0_2 l0_2.length l0_2) (hc0_2 : l0_2.length ≤ c0_2) (hr1_0 : Kd.C (Kd.int .i64) w A1_0 l1_0.length l1_0) (hc1_0 : l1_0.length ≤ c1_0) (hr1_1 : Kd.C (Kd.int .i64) w A1_1 l1_1.length l1_1) (hc1_1 : l1_1.length ≤ c1_1) (h : impl_NetNew.f k a0_0 a0_1 l0_2 l1_0 l1_1 = some (r1, r2, r3, r4, r5, r6, r7, r8, r9, r10, r11, r12)) :
  Calls Try.prog 6 #[.agg #[.int .i64 a0_0, .int .i64 a0_1, .slice A0_2 l0_2.length c0_2], .agg #[.slice A1_0 l1_0.length c1_0, .slice A1_1 l1_1.length c1_1]] w fun e w' => ∃ v2_ v3_ v4_ v5_ v6_ v7_ v8_ v9_ : Value, e = .returned (.tuple #[.agg #[.int .i64 r1, .int .i64 r2, v2_, v3_, v4_, v5_, v6_, v7_, v8_, v9_, .int .i64 r11], .bool r12]) ∧ Kd.R (Kd.int .i64) 3 w' w.heap.size (fun k_ => some k_ ≠ (v3_ : Value).ownBlock ∧ some k_ ≠ (v4_ : Value).ownBlock ∧ some k_ ≠ (v6_ : Value).ownBlock ∧ some k_ ≠ (v7_ : Value).ownBlock) v2_ r3 ∧ Kd.R (Kd.int .i64) 3 w' w.heap.size (fun k_ => some k_ ≠ (v2_ : Value).ownBlock ∧ some k_ ≠ (v4_ : Value).ownBlock ∧ some k_ ≠ (v6_ : Value).ownBlock ∧ some k_ ≠ (v7_ : Value).ownBlock) v3_ r4 ∧ Kd.R (Kd.int .i64) 3 w' w.heap.size (fun k_ => some k_ ≠ (v2_ : Value).ownBlock ∧ some k_ ≠ (v3_ : Value).ownBlock ∧ some k_ ≠ (v6_ : Value).ownBlock ∧ some k_ ≠ (v7_ : Value).ownBlock) v4_ r5 ∧ Kd.S (Kd.slice 79 k79) 61 w' w.heap.size (fun k_ => some k_ ≠ (v8_ : Value).ownBlock ∧ some k_ ≠ (v9_ : Value).ownBlock) v5_ r6 ∧ Kd.R (Kd.int .i64) 3 w' w.heap.size (fun k_ => some k_ ≠ (v2_ : Value).ownBlock ∧ some k_ ≠ (v3_ : Value).ownBlock ∧ some k_ ≠ (v4_ : Value).ownBlock ∧ some k_ ≠ (v7_ : Value).ownBlock) v6_ r7 ∧ Kd.R (Kd.int .i64) 3 w' w.heap.size (fun k_ => some k_ ≠ (v2_ : Value).ownBlock ∧ some k_ ≠ (v3_ : Value).ownBlock ∧ some k_ ≠ (v4_ : Value).ownBlock ∧ some k_ ≠ (v6_ : Value).ownBlock) v7_ r8 ∧ Kd.S (Kd.slice 79 k79) 61 w' w.heap.size (fun k_ => some k_ ≠ (v5_ : Value).ownBlock ∧ some k_ ≠ (v9_ : Value).ownBlock) v8_ r9 ∧ Kd.S (Kd.slice 79 k79) 61 w' w.heap.size (fun k_ => some k_ ≠ (v5_ : Value).ownBlock ∧ some k_ ≠ (v8_ : Value).ownBlock) v9_ r10 ∧ Below w.heap.size w w' := by
 have hu28 := Try.underlying28
 have hu32 := Try.underlying32
 have hu38 := Try.underlying38
 have hu25 := Try.underlying25
 have HR0_2 := Aside0.mk hr0_2
 have HC0_2 := Aside0.mk hc0_2
 clear hr0_2 hc0_2
 have HR1_0 := Aside0.mk hr1_0
 have HC1_0 := Aside0.mk hc1_0
 clear hr1_0 hc1_0
 have HR1_1 := Aside0.mk hr1_1
 have HC1_1 := Aside0.mk hc1_1
 clear hr1_1 hc1_1
 have HB := Aside0.mk (Below.refl w.heap.size w)
 have H : ((impl_ClassesOk.f k a0_0 a0_1 l0_2 l1_0 l1_1).bind fun t311 => (if t311 = true then ((impl_NodeCount.f a0_0 a0_1).bind fun t312 => ((impl_copyMesh.f a0_0 a0_1 l0_2).bind fun bt313 => ((impl_copyClasses.f l1_0 l1_1).bind fun bt318 => (if 0 ≤ (wrap64 (5 * t312)) then (if (wrap64 (5 * t312) : Int).toNat ≤ 35184372088832 then (if 0 ≤ (wrap64 (10 * t312)) then (if (wrap64 (10 * t312) : Int).toNat ≤ 11728124029610 then (if 0 ≤ t312 then (if (t312 : Int).toNat ≤ 11728124029610 then (impl_NetNew.l0 k (wrap64 (10 * t312)) 0 bt313.1 bt313.2.1 bt313.2.2 bt318.1 bt318.2 (List.replicate (wrap64 (10 * t312) : Int).toNat []) ([] : List Int) (List.replicate (wrap64 (5 * t312) : Int).toNat 0) (List.replicate (t312 : Int).toNat []) (List.replicate (t312 : Int).toNat []) 0) else (none)) else (none)) else (none)) else (none)) else (none)) else (none))))) else (some (0, 0, ([] : List Int), ([] : List Int), ([] : List Int), ([] : List (List (S79))), ([] : List Int), ([] : List Int), ([] : List (List (S79))), ([] : List (List (S79))), 0, false)))) = some (r1, r2, r3, r4, r5, r6, r7, r8, r9, r10, r11, r12) := h
 clear h
 obtain ⟨t311, A3, H⟩ := bi_ H
 by_cases c4 : t311 = true
 ·subst c4
  rw [if_pos rfl] at H
  obtain ⟨t312, A5, H⟩ := bi_ H
  obtain ⟨⟨t313, t314, t315⟩, A6, H⟩ := bi_ H
  try dsimp only at H
  obtain ⟨⟨t318, t321⟩, A7, H⟩ := bi_ H
  try dsimp only at H
  obtain ⟨ji8, hji8⟩ : ∃ j_ : Int, (wrap64 (5 * t312)) = j_ := ⟨_, rfl⟩
  replace H : (if 0 ≤ (ji8) then (if (ji8 : Int).toNat ≤ 35184372088832 then (if 0 ≤ (wrap64 (10 * t312)) then (if (wrap64 (10 * t312) : Int).toNat ≤ 11728124029610 then (if 0 ≤ t312 then (if (t312 : Int).toNat ≤ 11728124029610 then (impl_NetNew.l0 k (wrap64 (10 * t312)) 0 t313 t314 t315 t318 t321 (List.replicate (wrap64 (10 * t312) : Int).toNat []) ([] : List Int) (List.replicate (ji8 : Int).toNat 0) (List.replicate (t312 : Int).toNat []) (List.replicate (t312 : Int).toNat []) 0) else (none)) else (none)) else (none)) else (none)) else (none)) else (none)) = some (r1, r2, r3, r4, r5, r6, r7, r8, r9, r10, r11, r12) := by first | (rw [hji8] at H; exact H) | (simp only [hji8] at H ⊢; exact H)
  (try rw [hji8] at A3)
  (try rw [hji8] at A5)
  (try rw [hji8] at A6)
  (try rw [hji8] at A7)
  have hji8w : (IntKind.i64.wrap (5 * t312)) = ji8 := (i64_w _).trans hji8
  by_cases c9 : 0 ≤ (ji8)
  rotate_left
  ·rw [if_neg c9] at H
   exact absurd H (by simp)
  rw [if_pos c9] at H
  have c9b0 := eq_true c9
  have c9b1 : decide (0 ≤ (ji8)) = true := decide_eq_true c9
  clear c9
  by_cases c10 : (ji8 : Int).toNat ≤ 35184372088832
  rotate_left
  ·rw [if_neg c10] at H
   exact absurd H (by simp)
  rw [if_pos c10] at H
  have c10b0 := eq_true c10
  have c10b1 : decide ((ji8 : Int).toNat ≤ 35184372088832) = true := decide_eq_true c10
  clear c10
  obtain ⟨y324, hy324⟩ : ∃ y_ : List Int, y_ = (List.replicate (ji8 : Int).toNat 0) := ⟨_, rfl⟩
  replace H : (if 0 ≤ (wrap64 (10 * t312)) then (if (wrap64 (10 * t312) : Int).toNat ≤ 11728124029610 then (if 0 ≤ t312 then (if (t312 : Int).toNat ≤ 11728124029610 then (impl_NetNew.l0 k (wrap64 (10 * t312)) 0 t313 t314 t315 t318 t321 (List.replicate (wrap64 (10 * t312) : Int).toNat []) ([] : List Int) y324 (List.replicate (t312 : Int).toNat []) (List.replicate (t312 : Int).toNat []) 0) else (none)) else (none)) else (none)) else (none)) = some (r1, r2, r3, r4, r5, r6, r7, r8, r9, r10, r11, r12) := by first | (rw [hy324]; with_reducible exact H) | (have H2_ := (Option.bind_some _ _).symm.trans H; rw [hy324]; with_reducible exact H2_) | (have H2_ := (Option.bind_some _ _).symm.trans H; with_reducible exact H2_) | with_reducible exact H | (rw [hy324]; exact H) | exact H
  have Ny324 := Aside0.mk hy324
  clear hy324
  obtain ⟨ji11, hji11⟩ : ∃ j_ : Int, (wrap64 (10 * t312)) = j_ := ⟨_, rfl⟩
  replace H : (if 0 ≤ (ji11) then (if (ji11 : Int).toNat ≤ 11728124029610 then (if 0 ≤ t312 then (if (t312 : Int).toNat ≤ 11728124029610 then (impl_NetNew.l0 k ji11 0 t313 t314 t315 t318 t321 (List.replicate (ji11 : Int).toNat []) ([] : List Int) y324 (List.replicate (t312 : Int).toNat []) (List.replicate (t312 : Int).toNat []) 0) else (none)) else (none)) else (none)) else (none)) = some (r1, r2, r3, r4, r5, r6, r7, r8, r9, r10, r11, r12) := by first | (rw [hji11] at H; exact H) | (simp only [hji11] at H ⊢; exact H)
  (try rw [hji11] at A3)
  (try rw [hji11] at A5)
  (try rw [hji11] at A6)
  (try rw [hji11] at A7)
  have hji11w : (IntKind.i64.wrap (10 * t312)) = ji11 := (i64_w _).trans hji11
  by_cases c12 : 0 ≤ (ji11)
  rotate_left
  ·rw [if_neg c12] at H
   exact absurd H (by simp)
  rw [if_pos c12] at H
  have c12b0 := eq_true c12
  have c12b1 : decide (0 ≤ (ji11)) = true := decide_eq_true c12
  clear c12
  by_cases c13 : (ji11 : Int).toNat ≤ 11728124029610
  rotate_left
  ·rw [if_neg c13] at H
   exact absurd H (by simp)
  rw [if_pos c13] at H
  have c13b0 := eq_true c13
  have c13b1 : decide ((ji11 : Int).toNat ≤ 11728124029610) = true := decide_eq_true c13
  clear c13
  obtain ⟨y328, hy328⟩ : ∃ y_ : List (List (S79)), y_ = (List.replicate (ji11 : Int).toNat []) := ⟨_, rfl⟩
  replace H : (if 0 ≤ t312 then (if (t312 : Int).toNat ≤ 11728124029610 then (impl_NetNew.l0 k ji11 0 t313 t314 t315 t318 t321 y328 ([] : List Int) y324 (List.replicate (t312 : Int).toNat []) (List.replicate (t312 : Int).toNat []) 0) else (none)) else (none)) = some (r1, r2, r3, r4, r5, r6, r7, r8, r9, r10, r11, r12) := by first | (rw [hy328]; with_reducible exact H) | (have H2_ := (Option.bind_some _ _).symm.trans H; rw [hy328]; with_reducible exact H2_) | (have H2_ := (Option.bind_some _ _).symm.trans H; with_reducible exact H2_) | with_reducible exact H | (rw [hy328]; exact H) | exact H
  have Ny328 := Aside0.mk hy328
  clear hy328
  by_cases c14 : 0 ≤ t312
  rotate_left
  ·rw [if_neg c14] at H
   exact absurd H (by simp)
  rw [if_pos c14] at H
  have c14b0 := eq_true c14
  have c14b1 : decide (0 ≤ t312) = true := decide_eq_true c14
  clear c14
  by_cases c15 : (t312 : Int).toNat ≤ 11728124029610
  rotate_left
  ·rw [if_neg c15] at H
   exact absurd H (by simp)
  rw [if_pos c15] at H
  have c15b0 := eq_true c15
  have c15b1 : decide ((t312 : Int).toNat ≤ 11728124029610) = true := decide_eq_true c15
  clear c15
  obtain ⟨y331, hy331⟩ : ∃ y_ : List (List (S79)), y_ = (List.replicate (t312 : Int).toNat []) := ⟨_, rfl⟩
  replace H : (impl_NetNew.l0 k ji11 0 t313 t314 t315 t318 t321 y328 ([] : List Int) y324 y331 (List.replicate (t312 : Int).toNat []) 0) = some (r1, r2, r3, r4, r5, r6, r7, r8, r9, r10, r11, r12) := by first | (rw [hy331]; with_reducible exact H) | (have H2_ := (Option.bind_some _ _).symm.trans H; rw [hy331]; with_reducible exact H2_) | (have H2_ := (Option.bind_some _ _).symm.trans H; with_reducible exact H2_) | with_reducible exact H | (rw [hy331]; exact H) | exact H
  have Ny331 := Aside0.mk hy331
  clear hy331
  obtain ⟨y334, hy334⟩ : ∃ y_ : List (List (S79)), y_ = (List.replicate (t312 : Int).toNat []) := ⟨_, rfl⟩
  replace H : (impl_NetNew.l0 k ji11 0 t313 t314 t315 t318 t321 y328 ([] : List Int) y324 y331 y334 0) = some (r1, r2, r3, r4, r5, r6, r7, r8, r9, r10, r11, r12) := by first | (rw [hy334]; with_reducible exact H) | (have H2_ := (Option.bind_some _ _).symm.trans H; rw [hy334]; with_reducible exact H2_) | (have H2_ := (Option.bind_some _ _).symm.trans H; with_reducible exact H2_) | with_reducible exact H | (rw [hy334]; exact H) | exact H
  have Ny334 := Aside0.mk hy334
  clear hy334
  have H' := Aside0.mk H
  clear H
  go_enter Try.func6, Try.ntmps6
  try go_wp2_with (first | ((with_reducible refine gate_dst (N := 2) rfl ?_); refine box_event ?hg (N := 2) ?hd (cs := #[.int .i64 a0_0, .int .i64 a0_1, .slice A0_2 l0_2.length c0_2]) (t := 28) ?hr ?_; (case hd => rfl); (case hg => rfl); (case hr => first | (go_simp; done) | (go_simp; rfl)); intro gb308 hg w16 hbox hb; have BK308 := Aside0.mk (hbox); have GW308 := gw_ hg HB; have GE308 := gw_ hg HB; replace HB := hs_ HB hb; clear hb hbox hg) | ((with_reducible refine gate_dst (N := 3) rfl ?_); refine box_event ?hg (N := 3) ?hd (cs := #[.slice A1_0 l1_0.length c1_0, .slice A1_1 l1_1.length c1_1]) (t := 32) ?hr ?_; (case hd => rfl); (case hg => rfl); (case hr => first | (go_simp; done) | (go_simp; rfl)); intro gb309 hg w17 hbox hb; have BK309 := Aside0.mk (hbox); have GW309 := gw_ hg HB; have GE309 := gw_ hg HB; replace HB := hs_ HB hb; have NB308_309 := nl_ hg BK308; have NB309_308 := ng_ hg BK308; replace BK308 := kb_ BK308 hb; clear hb hbox hg) | ((with_reducible refine gate_dst (N := 4) rfl ?_); refine box_event ?hg (N := 4) ?hd (cs := #[.int .i64 0, .int .i64 0, .slice none 0 0, .slice none 0 0, .slice none 0 0, .slice none 0 0, .slice none 0 0, .slice none 0 0, .slice none 0 0, .slice none 0 0, .int .i64 0]) (t := 38) ?hr ?_; (case hd => rfl); (case hg => rfl); (case hr => first | (go_simp; done) | (go_simp; rfl)); intro gb310 hg w18 hbox hb; have BK310 := Aside0.mk (hbox); have GW310 := gw_ hg HB; have GE310 := gw_ hg HB; replace HB := hs_ HB hb; have NB308_310 := nl_ hg BK308; have NB310_308 := ng_ hg BK308; replace BK308 := kb_ BK308 hb; have NB309_310 := nl_ hg BK309; have NB310_309 := ng_ hg BK309; replace BK309 := kb_ BK309 hb; clear hb hbox hg; have hnb19 := NB308_309.out; have hnc19 := NB309_308.out; have hnb20 := NB308_310.out; have hnc20 := NB310_308.out; obtain ⟨hcz21_0, hcz21_1, hcz21_2, hfz21_0, hfz21_1, hfz21_2⟩ := cz3_ BK308.out; have hnb22 := NB309_310.out; have hnc22 := NB310_309.out; obtain ⟨hcz23_0, hcz23_1, hfz23_0, hfz23_1⟩ := cz2_ BK309.out) | ((with_reducible refine gate_callee (f := 18) rfl ?_); refine gm_ (some 10) Try.func18 #[.agg #[.int .i64 a0_0, .int .i64 a0_1, .slice A0_2 l0_2.length c0_2], .agg #[.slice A1_0 l1_0.length c1_0, .slice A1_1 l1_1.length c1_1]] rfl ?_; (with_reducible refine (impl_ClassesOk.calls k a0_0 a0_1 _ _ l0_2 _ _ l1_0 _ _ l1_1 true _ ?side1 HC0_2.out ?side3 HC1_0.out ?side5 HC1_1.out A3.out).mono ?_); (case side1 => exact cb_ HR0_2.out HB.out); (case side3 => exact cb_ HR1_0.out HB.out); (case side5 => exact cb_ HR1_1.out HB.out); rintro e w24 ⟨rfl, hb⟩; refine ⟨_, rfl, ?_⟩; replace BK308 := kb_ BK308 hb; replace BK309 := kb_ BK309 hb; replace BK310 := kb_ BK310 hb; replace HB := hs_ HB hb; (try clear hb); obtain ⟨hcz25_0, hcz25_1, hcz25_2, hfz25_0, hfz25_1, hfz25_2⟩ := cz3_ BK308.out) | ((with_reducible refine gate_callee (f := 19) rfl ?_); refine gm_ (some 15) Try.func19 #[.agg #[.int .i64 a0_0, .int .i64 a0_1]] rfl ?_; (with_reducible refine (impl_NodeCount.calls a0_0 a0_1 t312 _ A5.out).mono ?_); rintro e w26 ⟨rfl, hb⟩; refine ⟨_, rfl, ?_⟩; replace BK308 := kb_ BK308 hb; replace BK309 := kb_ BK309 hb; replace BK310 := kb_ BK310 hb; replace HB := hs_ HB hb; (try clear hb)))
  replace BK308 := Aside0.mk (blk_drew BK308.out)
  replace BK309 := Aside0.mk (blk_drew BK309.out)
  replace BK310 := Aside0.mk (blk_drew BK310.out)
  replace HB := Aside0.mk (below_drew1 HB.out)
  refine start_ (n := 10) (S := fun w' => w'.cell? ⟨gb308, 0, none⟩ = some (.int .i64 a0_0) ∧ w'.cell? ⟨gb308, 1, none⟩ = some (.int .i64 a0_1) ∧ w'.cell? ⟨gb308, 2, none⟩ = some (.slice A0_2 l0_2.length c0_2) ∧ w'.cell? ⟨gb309, 0, none⟩ = some (.slice A1_0 l1_0.length c1_0) ∧ w'.cell? ⟨gb309, 1, none⟩ = some (.slice A1_1 l1_1.length c1_1)) (ds := []) #[false, false, false, false, false, false, false, false, false, false] (by kernel_rfl) rfl rfl ⟨(blk_cell BK308.out 0).trans rfl, (blk_cell BK308.out 1).trans rfl, (blk_cell BK308.out 2).trans rfl, (blk_cell BK309.out 0).trans rfl, (blk_cell BK309.out 1).trans rfl⟩ (fun hHeld => ?_); refine with_tabW impl_NetNew.tab4 impl_NetNew.bits4 (fun HT_ HW_ => ?_)
  generalize w26.drew = w27 at BK308 BK309 BK310 HB hHeld ⊢
  refine pu_ 4 20 (bt_ 10 16) HT_ ?_
  refine pu_ 5 21 (bt_ 10 48) HT_ ?_
  refine take_ (i := 0) (N := some 16) (v := ?_) (a' := ?_) (bt_ 10 49) rfl rfl (take_ofW HT_.out HW_.out (by kernel_rfl)) (fun _ _ _ h => h) (Or.inl ⟨by rfl, ?_⟩) hHeld ?_ ?_
  rotate_left
  ·rintro w' ⟨s0, s1, s2, s3, s4⟩
   go_simp
   with_reducible rfl
  rotate_left
  ·simp only [Act.put, List.setIfInBounds_toArray, List.set_cons_zero, List.set_cons_succ, i64_w, i32_w]
   rfl
  refine take_ (i := 2) (N := some 18) (v := ?_) (a' := ?_) (bt_ 10 53) rfl rfl (take_ofW HT_.out HW_.out (by kernel_rfl)) (fun _ _ _ h => h) (Or.inl ⟨by rfl, ?_⟩) hHeld ?_ ?_
  rotate_left
  ·rintro w' ⟨s0, s1, s2, s3, s4⟩
   go_simp
   with_reducible rfl
  rotate_left
  ·simp only [Act.put, List.setIfInBounds_toArray, List.set_cons_zero, List.set_cons_succ, i64_w, i32_w]
   rfl
  refine join_ (σ := Value × Value × Value × Value × Nat) 1 #[true, true, true, true, true, true, true, true, true, false] (fun s_ => [(17, .agg #[.int .i64 t313, .int .i64 t314, s_.1]), (19, .agg #[s_.2.1, s_.2.2.1]), (22, s_.2.2.2.1), (7, .pointer (some ⟨s_.2.2.2.2, 0, none⟩)), (23, .agg #[.int .i64 t313, .int .i64 t314, s_.1, s_.2.1, s_.2.2.1, .slice none 0 0, .slice none 0 0, s_.2.2.2.1, .slice none 0 0, .slice none 0 0, .int .i64 0])]) (fun s_ w' => (w'.cell? ⟨gb308, 0, none⟩ = some (.int .i64 a0_0) ∧ w'.cell? ⟨gb308, 1, none⟩ = some (.int .i64 a0_1) ∧ w'.cell? ⟨gb308, 2, none⟩ = some (.slice A0_2 l0_2.length c0_2) ∧ w'.cell? ⟨gb309, 0, none⟩ = some (.slice A1_0 l1_0.length c1_0) ∧ w'.cell? ⟨gb309, 1, none⟩ = some (.slice A1_1 l1_1.length c1_1)) ∧ (Kd.R (Kd.int .i64) 3 w' w.heap.size (fun k_ => some k_ ≠ (s_.2.1 : Value).ownBlock ∧ some k_ ≠ (s_.2.2.1 : Value).ownBlock ∧ some k_ ≠ (s_.2.2.2.1 : Value).ownBlock) s_.1 t315) ∧ (Kd.R (Kd.int .i64) 3 w' w.heap.size (fun k_ => some k_ ≠ (s_.1 : Value).ownBlock ∧ some k_ ≠ (s_.2.2.1 : Value).ownBlock ∧ some k_ ≠ (s_.2.2.2.1 : Value).ownBlock) s_.2.1 t318) ∧ (Kd.R (Kd.int .i64) 3 w' w.heap.size (fun k_ => some k_ ≠ (s_.1 : Value).ownBlock ∧ some k_ ≠ (s_.2.1 : Value).ownBlock ∧ some k_ ≠ (s_.2.2.2.1 : Value).ownBlock) s_.2.2.1 t321) ∧ (Kd.R (Kd.int .i64) 3 w' w.heap.size (fun k_ => some k_ ≠ (s_.1 : Value).ownBlock ∧ some k_ ≠ (s_.2.1 : Value).ownBlock ∧ some k_ ≠ (s_.2.2.1 : Value).ownBlock) s_.2.2.2.1 y324) ∧ (w'.heap[gb308]? = some (.cells #[.int .i64 a0_0, .int .i64 a0_1, .slice A0_2 l0_2.length c0_2] 28 (0, 0))) ∧ (w'.heap[gb309]? = some (.cells #[.slice A1_0 l1_0.length c1_0, .slice A1_1 l1_1.length c1_1] 32 (0, 0))) ∧ (w'.heap[gb310]? = some (.cells #[.int .i64 0, .int .i64 0, .slice none 0 0, .slice none 0 0, .slice none 0 0, .slice none 0 0, .slice none 0 0, .slice none 0 0, .slice none 0 0, .slice none 0 0, .int .i64 0] 38 (0, 0))) ∧ (w'.heap[s_.2.2.2.2]? = some (.cells #[.int .i64 0, .int .i64 0, .slice none 0 0, .slice none 0 0, .slice none 0 0, .slice none 0 0, .slice none 0 0, .slice none 0 0, .slice none 0 0, .slice none 0 0, .int .i64 0] 38 (0, 0))) ∧ (w.heap.size ≤ s_.2.2.2.2) ∧ (w.heap.size ≤ s_.2.2.2.2) ∧ (gb308 ≠ s_.2.2.2.2) ∧ (s_.2.2.2.2 ≠ gb308) ∧ (gb309 ≠ s_.2.2.2.2) ∧ (s_.2.2.2.2 ≠ gb309) ∧ (gb310 ≠ s_.2.2.2.2) ∧ (s_.2.2.2.2 ≠ gb310) ∧ (Below w.heap.size w w')) ?_ ?_
  rotate_left
  ·intro hJ1_3_6_8
   refine join_ (σ := Value × Value × Value × Value) 2 #[true, true, true, true, true, true, true, true, false, false] (fun s_ => [(17, .agg #[.int .i64 t313, .int .i64 t314, s_.1]), (19, .agg #[s_.2.1, s_.2.2.1]), (22, s_.2.2.2), (23, .agg #[.int .i64 t313, .int .i64 t314, s_.1, s_.2.1, s_.2.2.1, .slice none 0 0, .slice none 0 0, s_.2.2.2, .slice none 0 0, .slice none 0 0, .int .i64 0])]) (fun s_ w' => (w'.cell? ⟨gb308, 0, none⟩ = some (.int .i64 a0_0) ∧ w'.cell? ⟨gb308, 1, none⟩ = some (.int .i64 a0_1) ∧ w'.cell? ⟨gb308, 2, none⟩ = some (.slice A0_2 l0_2.length c0_2) ∧ w'.cell? ⟨gb309, 0, none⟩ = some (.slice A1_0 l1_0.length c1_0) ∧ w'.cell? ⟨gb309, 1, none⟩ = some (.slice A1_1 l1_1.length c1_1)) ∧ (Kd.R (Kd.int .i64) 3 w' w.heap.size (fun k_ => some k_ ≠ (s_.2.1 : Value).ownBlock ∧ some k_ ≠ (s_.2.2.1 : Value).ownBlock ∧ some k_ ≠ (s_.2.2.2 : Value).ownBlock) s_.1 t315) ∧ (Kd.R (Kd.int .i64) 3 w' w.heap.size (fun k_ => some k_ ≠ (s_.1 : Value).ownBlock ∧ some k_ ≠ (s_.2.2.1 : Value).ownBlock ∧ some k_ ≠ (s_.2.2.2 : Value).ownBlock) s_.2.1 t318) ∧ (Kd.R (Kd.int .i64) 3 w' w.heap.size (fun k_ => some k_ ≠ (s_.1 : Value).ownBlock ∧ some k_ ≠ (s_.2.1 : Value).ownBlock ∧ some k_ ≠ (s_.2.2.2 : Value).ownBlock) s_.2.2.1 t321) ∧ (Kd.R (Kd.int .i64) 3 w' w.heap.size (fun k_ => some k_ ≠ (s_.1 : Value).ownBlock ∧ some k_ ≠ (s_.2.1 : Value).ownBlock ∧ some k_ ≠ (s_.2.2.1 : Value).ownBlock) s_.2.2.2 y324) ∧ (w'.heap[gb308]? = some (.cells #[.int .i64 a0_0, .int .i64 a0_1, .slice A0_2 l0_2.length c0_2] 28 (0, 0))) ∧ (w'.heap[gb309]? = some (.cells #[.slice A1_0 l1_0.length c1_0, .slice A1_1 l1_1.length c1_1] 32 (0, 0))) ∧ (w'.heap[gb310]? = some (.cells #[.int .i64 0, .int .i64 0, .slice none 0 0, .slice none 0 0, .slice none 0 0, .slice none 0 0, .slice none 0 0, .slice none 0 0, .slice none 0 0, .slice none 0 0, .int .i64 0] 38 (0, 0))) ∧ (Below w.heap.size w w')) ?_ ?_
   rotate_left
   ·intro hJ1_3_6
    refine join_ (σ := Value × Value × Value × Nat) 3 #[true, true, true, true, true, true, false, false, true, false] (fun s_ => [(17, .agg #[.int .i64 t313, .int .i64 t314, s_.1]), (19, .agg #[s_.2.1, s_.2.2.1]), (7, .pointer (some ⟨s_.2.2.2, 0, none⟩))]) (fun s_ w' => (w'.cell? ⟨gb308, 0, none⟩ = some (.int .i64 a0_0) ∧ w'.cell? ⟨gb308, 1, none⟩ = some (.int .i64 a0_1) ∧ w'.cell? ⟨gb308, 2, none⟩ = some (.slice A0_2 l0_2.length c0_2) ∧ w'.cell? ⟨gb309, 0, none⟩ = some (.slice A1_0 l1_0.length c1_0) ∧ w'.cell? ⟨gb309, 1, none⟩ = some (.slice A1_1 l1_1.length c1_1)) ∧ (Kd.R (Kd.int .i64) 3 w' w.heap.size (fun k_ => some k_ ≠ (s_.2.1 : Value).ownBlock ∧ some k_ ≠ (s_.2.2.1 : Value).ownBlock) s_.1 t315) ∧ (Kd.R (Kd.int .i64) 3 w' w.heap.size (fun k_ => some k_ ≠ (s_.1 : Value).ownBlock ∧ some k_ ≠ (s_.2.2.1 : Value).ownBlock) s_.2.1 t318) ∧ (Kd.R (Kd.int .i64) 3 w' w.heap.size (fun k_ => some k_ ≠ (s_.1 : Value).ownBlock ∧ some k_ ≠ (s_.2.1 : Value).ownBlock) s_.2.2.1 t321) ∧ (w'.heap[gb308]? = some (.cells #[.int .i64 a0_0, .int .i64 a0_1, .slice A0_2 l0_2.length c0_2] 28 (0, 0))) ∧ (w'.heap[gb309]? = some (.cells #[.slice A1_0 l1_0.length c1_0, .slice A1_1 l1_1.length c1_1] 32 (0, 0))) ∧ (w'.heap[gb310]? = some (.cells #[.int .i64 0, .int .i64 0, .slice none 0 0, .slice none 0 0, .slice none 0 0, .slice none 0 0, .slice none 0 0, .slice none 0 0, .slice none 0 0, .slice none 0 0, .int .i64 0] 38 (0, 0))) ∧ (w'.heap[s_.2.2.2]? = some (.cells #[.int .i64 0, .int .i64 0, .slice none 0 0, .slice none 0 0, .slice none 0 0, .slice none 0 0, .slice none 0 0, .slice none 0 0, .slice none 0 0, .slice none 0 0, .int .i64 0] 38 (0, 0))) ∧ (w.heap.size ≤ s_.2.2.2) ∧ (w.heap.size ≤ s_.2.2.2) ∧ (gb308 ≠ s_.2.2.2) ∧ (s_.2.2.2 ≠ gb308) ∧ (gb309 ≠ s_.2.2.2) ∧ (s_.2.2.2 ≠ gb309) ∧ (gb310 ≠ s_.2.2.2) ∧ (s_.2.2.2 ≠ gb310) ∧ (Below w.heap.size w w')) ?_ ?_
    rotate_left
    ·intro hJ1_3_8
     refine join_ (σ := Value × Value × Nat) 3 #[true, true, true, false, true, true, true, false, true, false] (fun s_ => [(17, .agg #[.int .i64 t313, .int .i64 t314, s_.1]), (22, s_.2.1), (7, .pointer (some ⟨s_.2.2, 0, none⟩))]) (fun s_ w' => (w'.cell? ⟨gb308, 0, none⟩ = some (.int .i64 a0_0) ∧ w'.cell? ⟨gb308, 1, none⟩ = some (.int .i64 a0_1) ∧ w'.cell? ⟨gb308, 2, none⟩ = some (.slice A0_2 l0_2.length c0_2) ∧ w'.cell? ⟨gb309, 0, none⟩ = some (.slice A1_0 l1_0.length c1_0) ∧ w'.cell? ⟨gb309, 1, none⟩ = some (.slice A1_1 l1_1.length c1_1)) ∧ (Kd.R (Kd.int .i64) 3 w' w.heap.size (fun k_ => some k_ ≠ (s_.2.1 : Value).ownBlock) s_.1 t315) ∧ (Kd.R (Kd.int .i64) 3 w' w.heap.size (fun k_ => some k_ ≠ (s_.1 : Value).ownBlock) s_.2.1 y324) ∧ (w'.heap[gb308]? = some (.cells #[.int .i64 a0_0, .int .i64 a0_1, .slice A0_2 l0_2.length c0_2] 28 (0, 0))) ∧ (w'.heap[gb309]? = some (.cells #[.slice A1_0 l1_0.length c1_0, .slice A1_1 l1_1.length c1_1] 32 (0, 0))) ∧ (w'.heap[gb310]? = some (.cells #[.int .i64 0, .int .i64 0, .slice none 0 0, .slice none 0 0, .slice none 0 0, .slice none 0 0, .slice none 0 0, .slice none 0 0, .slice none 0 0, .slice none 0 0, .int .i64 0] 38 (0, 0))) ∧ (w'.heap[s_.2.2]? = some (.cells #[.int .i64 0, .int .i64 0, .slice none 0 0, .slice none 0 0, .slice none 0 0, .slice none 0 0, .slice none 0 0, .slice none 0 0, .slice none 0 0, .slice none 0 0, .int .i64 0] 38 (0, 0))) ∧ (w.heap.size ≤ s_.2.2) ∧ (w.heap.size ≤ s_.2.2) ∧ (gb308 ≠ s_.2.2) ∧ (s_.2.2 ≠ gb308) ∧ (gb309 ≠ s_.2.2) ∧ (s_.2.2 ≠ gb309) ∧ (gb310 ≠ s_.2.2) ∧ (s_.2.2 ≠ gb310) ∧ (Below w.heap.size w w')) ?_ ?_
     rotate_left
     ·intro hJ1_6_8
      refine join_ (σ := Value × Value × Value) 4 #[true, true, true, true, true, true, false, false, false, false] (fun s_ => [(17, .agg #[.int .i64 t313, .int .i64 t314, s_.1]), (19, .agg #[s_.2.1, s_.2.2])]) (fun s_ w' => (w'.cell? ⟨gb308, 0, none⟩ = some (.int .i64 a0_0) ∧ w'.cell? ⟨gb308, 1, none⟩ = some (.int .i64 a0_1) ∧ w'.cell? ⟨gb308, 2, none⟩ = some (.slice A0_2 l0_2.length c0_2) ∧ w'.cell? ⟨gb309, 0, none⟩ = some (.slice A1_0 l1_0.length c1_0) ∧ w'.cell? ⟨gb309, 1, none⟩ = some (.slice A1_1 l1_1.length c1_1)) ∧ (Kd.R (Kd.int .i64) 3 w' w.heap.size (fun k_ => some k_ ≠ (s_.2.1 : Value).ownBlock ∧ some k_ ≠ (s_.2.2 : Value).ownBlock) s_.1 t315) ∧ (Kd.R (Kd.int .i64) 3 w' w.heap.size (fun k_ => some k_ ≠ (s_.1 : Value).ownBlock ∧ some k_ ≠ (s_.2.2 : Value).ownBlock) s_.2.1 t318) ∧ (Kd.R (Kd.int .i64) 3 w' w.heap.size (fun k_ => some k_ ≠ (s_.1 : Value).ownBlock ∧ some k_ ≠ (s_.2.1 : Value).ownBlock) s_.2.2 t321) ∧ (w'.heap[gb308]? = some (.cells #[.int .i64 a0_0, .int .i64 a0_1, .slice A0_2 l0_2.length c0_2] 28 (0, 0))) ∧ (w'.heap[gb309]? = some (.cells #[.slice A1_0 l1_0.length c1_0, .slice A1_1 l1_1.length c1_1] 32 (0, 0))) ∧ (w'.heap[gb310]? = some (.cells #[.int .i64 0, .int .i64 0, .slice none 0 0, .slice none 0 0, .slice none 0 0, .slice none 0 0, .slice none 0 0, .slice none 0 0, .slice none 0 0, .slice none 0 0, .int .i64 0] 38 (0, 0))) ∧ (Below w.heap.size w w')) ?_ ?_
      rotate_left
      ·intro hJ1_3
       refine join_ (σ := Value × Value) 4 #[true, true, true, false, true, true, true, false, false, false] (fun s_ => [(17, .agg #[.int .i64 t313, .int .i64 t314, s_.1]), (22, s_.2)]) (fun s_ w' => (w'.cell? ⟨gb308, 0, none⟩ = some (.int .i64 a0_0) ∧ w'.cell? ⟨gb308, 1, none⟩ = some (.int .i64 a0_1) ∧ w'.cell? ⟨gb308, 2, none⟩ = some (.slice A0_2 l0_2.length c0_2) ∧ w'.cell? ⟨gb309, 0, none⟩ = some (.slice A1_0 l1_0.length c1_0) ∧ w'.cell? ⟨gb309, 1, none⟩ = some (.slice A1_1 l1_1.length c1_1)) ∧ (Kd.R (Kd.int .i64) 3 w' w.heap.size (fun k_ => some k_ ≠ (s_.2 : Value).ownBlock) s_.1 t315) ∧ (Kd.R (Kd.int .i64) 3 w' w.heap.size (fun k_ => some k_ ≠ (s_.1 : Value).ownBlock) s_.2 y324) ∧ (w'.heap[gb308]? = some (.cells #[.int .i64 a0_0, .int .i64 a0_1, .slice A0_2 l0_2.length c0_2] 28 (0, 0))) ∧ (w'.heap[gb309]? = some (.cells #[.slice A1_0 l1_0.length c1_0, .slice A1_1 l1_1.length c1_1] 32 (0, 0))) ∧ (w'.heap[gb310]? = some (.cells #[.int .i64 0, .int .i64 0, .slice none 0 0, .slice none 0 0, .slice none 0 0, .slice none 0 0, .slice none 0 0, .slice none 0 0, .slice none 0 0, .slice none 0 0, .int .i64 0] 38 (0, 0))) ∧ (Below w.heap.size w w')) ?_ ?_
       rotate_left
       ·intro hJ1_6
        refine join_ (σ := Value × Nat) 4 #[true, true, true, false, true, true, false, false, true, false] (fun s_ => [(17, .agg #[.int .i64 t313, .int .i64 t314, s_.1]), (7, .pointer (some ⟨s_.2, 0, none⟩))]) (fun s_ w' => (w'.cell? ⟨gb308, 0, none⟩ = some (.int .i64 a0_0) ∧ w'.cell? ⟨gb308, 1, none⟩ = some (.int .i64 a0_1) ∧ w'.cell? ⟨gb308, 2, none⟩ = some (.slice A0_2 l0_2.length c0_2) ∧ w'.cell? ⟨gb309, 0, none⟩ = some (.slice A1_0 l1_0.length c1_0) ∧ w'.cell? ⟨gb309, 1, none⟩ = some (.slice A1_1 l1_1.length c1_1)) ∧ (Kd.R (Kd.int .i64) 3 w' w.heap.size (fun _ => True) s_.1 t315) ∧ (w'.heap[gb308]? = some (.cells #[.int .i64 a0_0, .int .i64 a0_1, .slice A0_2 l0_2.length c0_2] 28 (0, 0))) ∧ (w'.heap[gb309]? = some (.cells #[.slice A1_0 l1_0.length c1_0, .slice A1_1 l1_1.length c1_1] 32 (0, 0))) ∧ (w'.heap[gb310]? = some (.cells #[.int .i64 0, .int .i64 0, .slice none 0 0, .slice none 0 0, .slice none 0 0, .slice none 0 0, .slice none 0 0, .slice none 0 0, .slice none 0 0, .slice none 0 0, .int .i64 0] 38 (0, 0))) ∧ (w'.heap[s_.2]? = some (.cells #[.int .i64 0, .int .i64 0, .slice none 0 0, .slice none 0 0, .slice none 0 0, .slice none 0 0, .slice none 0 0, .slice none 0 0, .slice none 0 0, .slice none 0 0, .int .i64 0] 38 (0, 0))) ∧ (w.heap.size ≤ s_.2) ∧ (w.heap.size ≤ s_.2) ∧ (gb308 ≠ s_.2) ∧ (s_.2 ≠ gb308) ∧ (gb309 ≠ s_.2) ∧ (s_.2 ≠ gb309) ∧ (gb310 ≠ s_.2) ∧ (s_.2 ≠ gb310) ∧ (Below w.heap.size w w')) ?_ ?_
        rotate_left
        ·intro hJ1_8
         refine join_ (σ := Value × Nat) 4 #[true, false, true, false, true, true, true, false, true, false] (fun s_ => [(22, s_.1), (7, .pointer (some ⟨s_.2, 0, none⟩))]) (fun s_ w' => (w'.cell? ⟨gb308, 0, none⟩ = some (.int .i64 a0_0) ∧ w'.cell? ⟨gb308, 1, none⟩ = some (.int .i64 a0_1) ∧ w'.cell? ⟨gb308, 2, none⟩ = some (.slice A0_2 l0_2.length c0_2) ∧ w'.cell? ⟨gb309, 0, none⟩ = some (.slice A1_0 l1_0.length c1_0) ∧ w'.cell? ⟨gb309, 1, none⟩ = some (.slice A1_1 l1_1.length c1_1)) ∧ (Kd.R (Kd.int .i64) 3 w' w.heap.size (fun _ => True) s_.1 y324) ∧ (w'.heap[gb308]? = some (.cells #[.int .i64 a0_0, .int .i64 a0_1, .slice A0_2 l0_2.length c0_2] 28 (0, 0))) ∧ (w'.heap[gb309]? = some (.cells #[.slice A1_0 l1_0.length c1_0, .slice A1_1 l1_1.length c1_1] 32 (0, 0))) ∧ (w'.heap[gb310]? = some (.cells #[.int .i64 0, .int .i64 0, .slice none 0 0, .slice none 0 0, .slice none 0 0, .slice none 0 0, .slice none 0 0, .slice none 0 0, .slice none 0 0, .slice none 0 0, .int .i64 0] 38 (0, 0))) ∧ (w'.heap[s_.2]? = some (.cells #[.int .i64 0, .int .i64 0, .slice none 0 0, .slice none 0 0, .slice none 0 0, .slice none 0 0, .slice none 0 0, .slice none 0 0, .slice none 0 0, .slice none 0 0, .int .i64 0] 38 (0, 0))) ∧ (w.heap.size ≤ s_.2) ∧ (w.heap.size ≤ s_.2) ∧ (gb308 ≠ s_.2) ∧ (s_.2 ≠ gb308) ∧ (gb309 ≠ s_.2) ∧ (s_.2 ≠ gb309) ∧ (gb310 ≠ s_.2) ∧ (s_.2 ≠ gb310) ∧ (Below w.heap.size w w')) ?_ ?_
         rotate_left
         ·intro hJ6_8
          refine join_ (σ := Value) 5 #[true, true, true, false, true, true, false, false, false, false] (fun s_ => [(17, .agg #[.int .i64 t313, .int .i64 t314, s_])]) (fun s_ w' => (w'.cell? ⟨gb308, 0, none⟩ = some (.int .i64 a0_0) ∧ w'.cell? ⟨gb308, 1, none⟩ = some (.int .i64 a0_1) ∧ w'.cell? ⟨gb308, 2, none⟩ = some (.slice A0_2 l0_2.length c0_2) ∧ w'.cell? ⟨gb309, 0, none⟩ = some (.slice A1_0 l1_0.length c1_0) ∧ w'.cell? ⟨gb309, 1, none⟩ = some (.slice A1_1 l1_1.length c1_1)) ∧ (Kd.R (Kd.int .i64) 3 w' w.heap.size (fun _ => True) s_ t315) ∧ (w'.heap[gb308]? = some (.cells #[.int .i64 a0_0, .int .i64 a0_1, .slice A0_2 l0_2.length c0_2] 28 (0, 0))) ∧ (w'.heap[gb309]? = some (.cells #[.slice A1_0 l1_0.length c1_0, .slice A1_1 l1_1.length c1_1] 32 (0, 0))) ∧ (w'.heap[gb310]? = some (.cells #[.int .i64 0, .int .i64 0, .slice none 0 0, .slice none 0 0, .slice none 0 0, .slice none 0 0, .slice none 0 0, .slice none 0 0, .slice none 0 0, .slice none 0 0, .int .i64 0] 38 (0, 0))) ∧ (Below w.heap.size w w')) ?_ ?_
          rotate_left
          ·intro hJ1
           refine join_ (σ := Value) 5 #[true, false, true, false, true, true, true, false, false, false] (fun s_ => [(22, s_)]) (fun s_ w' => (w'.cell? ⟨gb308, 0, none⟩ = some (.int .i64 a0_0) ∧ w'.cell? ⟨gb308, 1, none⟩ = some (.int .i64 a0_1) ∧ w'.cell? ⟨gb308, 2, none⟩ = some (.slice A0_2 l0_2.length c0_2) ∧ w'.cell? ⟨gb309, 0, none⟩ = some (.slice A1_0 l1_0.length c1_0) ∧ w'.cell? ⟨gb309, 1, none⟩ = some (.slice A1_1 l1_1.length c1_1)) ∧ (Kd.R (Kd.int .i64) 3 w' w.heap.size (fun _ => True) s_ y324) ∧ (w'.heap[gb308]? = some (.cells #[.int .i64 a0_0, .int .i64 a0_1, .slice A0_2 l0_2.length c0_2] 28 (0, 0))) ∧ (w'.heap[gb309]? = some (.cells #[.slice A1_0 l1_0.length c1_0, .slice A1_1 l1_1.length c1_1] 32 (0, 0))) ∧ (w'.heap[gb310]? = some (.cells #[.int .i64 0, .int .i64 0, .slice none 0 0, .slice none 0 0, .slice none 0 0, .slice none 0 0, .slice none 0 0, .slice none 0 0, .slice none 0 0, .slice none 0 0, .int .i64 0] 38 (0, 0))) ∧ (Below w.heap.size w w')) ?_ ?_
           rotate_left
           ·intro hJ6
            refine join_ (σ := Nat) 5 #[true, false, true, false, true, true, false, false, true, false] (fun s_ => [(7, .pointer (some ⟨s_, 0, none⟩))]) (fun s_ w' => (w'.cell? ⟨gb308, 0, none⟩ = some (.int .i64 a0_0) ∧ w'.cell? ⟨gb308, 1, none⟩ = some (.int .i64 a0_1) ∧ w'.cell? ⟨gb308, 2, none⟩ = some (.slice A0_2 l0_2.length c0_2) ∧ w'.cell? ⟨gb309, 0, none⟩ = some (.slice A1_0 l1_0.length c1_0) ∧ w'.cell? ⟨gb309, 1, none⟩ = some (.slice A1_1 l1_1.length c1_1)) ∧ (w'.heap[gb308]? = some (.cells #[.int .i64 a0_0, .int .i64 a0_1, .slice A0_2 l0_2.length c0_2] 28 (0, 0))) ∧ (w'.heap[gb309]? = some (.cells #[.slice A1_0 l1_0.length c1_0, .slice A1_1 l1_1.length c1_1] 32 (0, 0))) ∧ (w'.heap[gb310]? = some (.cells #[.int .i64 0, .int .i64 0, .slice none 0 0, .slice none 0 0, .slice none 0 0, .slice none 0 0, .slice none 0 0, .slice none 0 0, .slice none 0 0, .slice none 0 0, .int .i64 0] 38 (0, 0))) ∧ (w'.heap[s_]? = some (.cells #[.int .i64 0, .int .i64 0, .slice none 0 0, .slice none 0 0, .slice none 0 0, .slice none 0 0, .slice none 0 0, .slice none 0 0, .slice none 0 0, .slice none 0 0, .int .i64 0] 38 (0, 0))) ∧ (w.heap.size ≤ s_) ∧ (w.heap.size ≤ s_) ∧ (gb308 ≠ s_) ∧ (s_ ≠ gb308) ∧ (gb309 ≠ s_) ∧ (s_ ≠ gb309) ∧ (gb310 ≠ s_) ∧ (s_ ≠ gb310) ∧ (Below w.heap.size w w')) ?_ ?_
            rotate_left
            ·intro hJ8
             refine three_ (i := 1) (j := 6) (k := 8) (Ni := some 17) (Nj := some 22) (Nk := some 7) #[true, true, true, false, true, true, false, false, false, false] #[true, false, true, false, true, true, true, false, false, false] #[true, false, true, false, true, true, false, false, true, false] rfl rfl rfl rfl rfl rfl (three_of HT_.out (by kernel_rfl)) (by decide) (by decide) (by decide) (fun K hK => ?_) (fun K hK => ?_) (fun K hK => ?_)
             ·skip
              refine goes_ Try.func20 (by kernel_rfl) rfl #[.agg #[.int .i64 a0_0, .int .i64 a0_1, .slice A0_2 l0_2.length c0_2]] (by rfl) rfl rfl (by (try simp only [List.map_toArray, List.map_cons, List.map_nil]); first | done | rfl | (simp only [List.length_drop, List.length_take]; rfl)) ?_
              with_reducible refine (impl_copyMesh.calls a0_0 a0_1 _ _ l0_2 t313 t314 t315 _ ?side1 ?side2 A6.out).mono ?_
              (case side1 => exact cb_ HR0_2.out HB.out)
              (case side2 => exact HC0_2.out)
              rintro e w28 ⟨v316, rfl, ho0, hb⟩
              refine ⟨_, rfl, ?_⟩
              have HO317 := Aside0.mk (Kd.R_lower ho0 (bz_ HB.out))
              replace BK308 := kb_ BK308 hb
              replace BK309 := kb_ BK309 hb
              replace BK310 := kb_ BK310 hb
              replace HB := hs_ HB hb
              (try clear hb)
              (try clear hk)
              (try clear ho0)
              refine hK.out _ _ ⟨(blk_cell BK308.out 0).trans rfl, (blk_cell BK308.out 1).trans rfl, (blk_cell BK308.out 2).trans rfl, (blk_cell BK309.out 0).trans rfl, (blk_cell BK309.out 1).trans rfl⟩ (fun hHeld => ?_)
              clear hK K
              refine norm_ (a' := ?_) ?_ ?_
              rotate_left
              ·show Act.put _ (some 17) _ = _
               simp only [Act.put, List.setIfInBounds_toArray, List.set_cons_zero, List.set_cons_succ, i64_w, i32_w]
               rfl
              exact norm_ (by simp only [putAll, Act.put, List.setIfInBounds_toArray, List.set_cons_zero, List.set_cons_succ]; first | done | rfl) (hJ1 (v316) _ ⟨hHeld, (ra_ HO317.out), bq_ BK308.out, bq_ BK309.out, bq_ BK310.out, (by repeat (first | (with_reducible first | exact HB.out | apply below_alloc | apply pw_below_drewN | apply below_drew1 | refine below_set ?_ GE308.out | refine below_set ?_ GE309.out | refine below_set ?_ GE310.out) | exact HB.out))⟩)
             ·skip
              refine Kd.R_make_step (Kd.int .i64) _ 3 (by rfl) (N := 22) rfl 26 _ _ rfl ji8 rfl rfl Try.underlying26 (.int .i64 0) 8 info3 rfl (by decide) (by omega) 0 (ok := fun _ => True) (okp := fun _ => True) rfl (fun _ hk => hk) trivial (of_decide_eq_true dg_) (Nat.le_trans (Nat.mul_le_mul_right _ (of_decide_eq_true dg_ : ji8.toNat ≤ 35184372088832)) (by omega)) (Below.refl _ _) (Nat.le_refl _) ?_
              intro v325 w28 ho29 hb hg_ hnew_
              clear hg_ hnew_
              (first | rw [← Ny324.out] at ho29 | (simp only [Int.reduceToNat] at ho29; rw [← Ny324.out] at ho29))
              have n0_ := Aside0.mk (Kd.R_lower ho29 (bz_ HB.out))
              have n1_ := Aside0.mk (bk_ BK308.out hb)
              have n2_ := Aside0.mk (bk_ BK309.out hb)
              have n3_ := Aside0.mk (bk_ BK310.out hb)
              have n4_ := Aside0.mk (bs_ HB.out hb)
              clear BK308 BK309 BK310 HB
              have HO326 := n0_
              have BK308 := n1_
              have BK309 := n2_
              have BK310 := n3_
              have HB := n4_
              clear n0_ n1_ n2_ n3_ n4_ hb ho29
              refine hK.out _ _ ⟨(blk_cell BK308.out 0).trans rfl, (blk_cell BK308.out 1).trans rfl, (blk_cell BK308.out 2).trans rfl, (blk_cell BK309.out 0).trans rfl, (blk_cell BK309.out 1).trans rfl⟩ (fun hHeld => ?_)
              clear hK K
              refine norm_ (a' := ?_) ?_ ?_
              rotate_left
              ·show Act.put _ (some 22) _ = _
               simp only [Act.put, List.setIfInBounds_toArray, List.set_cons_zero, List.set_cons_succ, i64_w, i32_w]
               rfl
              exact norm_ (by simp only [putAll, Act.put, List.setIfInBounds_toArray, List.set_cons_zero, List.set_cons_succ]; first | done | rfl) (hJ6 (v325) _ ⟨hHeld, (ra_ HO326.out), bq_ BK308.out, bq_ BK309.out, bq_ BK310.out, (by repeat (first | (with_reducible first | exact HB.out | apply below_alloc | apply pw_below_drewN | apply below_drew1 | refine below_set ?_ GE308.out | refine below_set ?_ GE309.out | refine below_set ?_ GE310.out) | exact HB.out))⟩)
             ·skip
              refine box_step ?hg (N := 7) ?hd (cs := #[.int .i64 0, .int .i64 0, .slice none 0 0, .slice none 0 0, .slice none 0 0, .slice none 0 0, .slice none 0 0, .slice none 0 0, .slice none 0 0, .slice none 0 0, .int .i64 0]) (t := 38) ?hr ?_; (case hd => rfl); (case hg => rfl); (case hr => first | (go_simp; done) | (go_simp; rfl))
              intro gb327 hg w28 hbox hb
              have n0_ := Aside0.mk (bk_ BK308.out hb)
              have n1_ := Aside0.mk (bk_ BK309.out hb)
              have n2_ := Aside0.mk (bk_ BK310.out hb)
              have n3_ := Aside0.mk (bs_ HB.out hb)
              have n4_ := Aside0.mk (hbox)
              have n5_ := Aside0.mk ((by rw [hg]; exact (bz_ HB.out) : w.heap.size ≤ gb327))
              have n6_ := Aside0.mk ((by rw [hg]; exact (bz_ HB.out) : w.heap.size ≤ gb327))
              have n7_ := Aside0.mk ((by rw [hg]; exact Nat.ne_of_lt (bl_ BK308.out) : gb308 ≠ gb327))
              have n8_ := Aside0.mk ((by rw [hg]; exact Nat.ne_of_gt (bl_ BK308.out) : gb327 ≠ gb308))
              have n9_ := Aside0.mk ((by rw [hg]; exact Nat.ne_of_lt (bl_ BK309.out) : gb309 ≠ gb327))
              have n10_ := Aside0.mk ((by rw [hg]; exact Nat.ne_of_gt (bl_ BK309.out) : gb327 ≠ gb309))
              have n11_ := Aside0.mk ((by rw [hg]; exact Nat.ne_of_lt (bl_ BK310.out) : gb310 ≠ gb327))
              have n12_ := Aside0.mk ((by rw [hg]; exact Nat.ne_of_gt (bl_ BK310.out) : gb327 ≠ gb310))
              clear BK308 BK309 BK310 HB
              have BK308 := n0_
              have BK309 := n1_
              have BK310 := n2_
              have HB := n3_
              have BK327 := n4_
              have GW327 := n5_
              have GE327 := n6_
              have NB308_327 := n7_
              have NB327_308 := n8_
              have NB309_327 := n9_
              have NB327_309 := n10_
              have NB310_327 := n11_
              have NB327_310 := n12_
              clear n0_ n1_ n2_ n3_ n4_ n5_ n6_ n7_ n8_ n9_ n10_ n11_ n12_ hb hbox hg
              refine hK.out _ _ ⟨(blk_cell BK308.out 0).trans rfl, (blk_cell BK308.out 1).trans rfl, (blk_cell BK308.out 2).trans rfl, (blk_cell BK309.out 0).trans rfl, (blk_cell BK309.out 1).trans rfl⟩ (fun hHeld => ?_)
              clear hK K
              refine norm_ (a' := ?_) ?_ ?_
              rotate_left
              ·show Act.put _ (some 7) _ = _
               simp only [Act.put, List.setIfInBounds_toArray, List.set_cons_zero, List.set_cons_succ, i64_w, i32_w]
               rfl
              exact norm_ (by simp only [putAll, Act.put, List.setIfInBounds_toArray, List.set_cons_zero, List.set_cons_succ]; first | done | rfl) (hJ8 (gb327) _ ⟨hHeld, bq_ BK308.out, bq_ BK309.out, bq_ BK310.out, bq_ BK327.out, GW327.out, GE327.out, NB308_327.out, NB327_308.out, NB309_327.out, NB327_309.out, NB310_327.out, NB327_310.out, (by repeat (first | (with_reducible first | exact HB.out | apply below_alloc | apply pw_below_drewN | apply below_drew1 | refine below_set ?_ GE308.out | refine below_set ?_ GE309.out | refine below_set ?_ GE310.out | refine below_set ?_ GE327.out) | exact HB.out))⟩)
            ·skip
             rintro gb327 w29 ⟨hS_, h0_, h1_, h2_, h3_, h4_, h5_, h6_, h7_, h8_, h9_, h10_, h11_, h12_⟩
             replace BK308 : Aside0 (w29.heap[gb308]? = some (.cells #[.int .i64 a0_0, .int .i64 a0_1, .slice A0_2 l0_2.length c0_2] 28 (0, 0))) := ⟨h0_⟩
             replace BK309 : Aside0 (w29.heap[gb309]? = some (.cells #[.slice A1_0 l1_0.length c1_0, .slice A1_1 l1_1.length c1_1] 32 (0, 0))) := ⟨h1_⟩
             replace BK310 : Aside0 (w29.heap[gb310]? = some (.cells #[.int .i64 0, .int .i64 0, .slice none 0 0, .slice none 0 0, .slice none 0 0, .slice none 0 0, .slice none 0 0, .slice none 0 0, .slice none 0 0, .slice none 0 0, .int .i64 0] 38 (0, 0))) := ⟨h2_⟩
             have BK327 : Aside0 (w29.heap[gb327]? = some (.cells #[.int .i64 0, .int .i64 0, .slice none 0 0, .slice none 0 0, .slice none 0 0, .slice none 0 0, .slice none 0 0, .slice none 0 0, .slice none 0 0, .slice none 0 0, .int .i64 0] 38 (0, 0))) := ⟨h3_⟩
             have GW327 : Aside0 (w.heap.size ≤ gb327) := ⟨h4_⟩
             have GE327 : Aside0 (w.heap.size ≤ gb327) := ⟨h5_⟩
             have NB308_327 : Aside0 (gb308 ≠ gb327) := ⟨h6_⟩
             have NB327_308 : Aside0 (gb327 ≠ gb308) := ⟨h7_⟩
             have NB309_327 : Aside0 (gb309 ≠ gb327) := ⟨h8_⟩
             have NB327_309 : Aside0 (gb327 ≠ gb309) := ⟨h9_⟩
             have NB310_327 : Aside0 (gb310 ≠ gb327) := ⟨h10_⟩
             have NB327_310 : Aside0 (gb327 ≠ gb310) := ⟨h11_⟩
             replace HB : Aside0 (Below w.heap.size w w29) := ⟨h12_⟩
             clear h0_ h1_ h2_ h3_ h4_ h5_ h6_ h7_ h8_ h9_ h10_ h11_ h12_
             have hHeld : w29.cell? ⟨gb308, 0, none⟩ = some (.int .i64 a0_0) ∧ w29.cell? ⟨gb308, 1, none⟩ = some (.int .i64 a0_1) ∧ w29.cell? ⟨gb308, 2, none⟩ = some (.slice A0_2 l0_2.length c0_2) ∧ w29.cell? ⟨gb309, 0, none⟩ = some (.slice A1_0 l1_0.length c1_0) ∧ w29.cell? ⟨gb309, 1, none⟩ = some (.slice A1_1 l1_1.length c1_1) := hS_
             refine norm_ (a' := ?_) ?_ ?_
             rotate_left
             ·simp only [putAll, Act.put, List.setIfInBounds_toArray, List.set_cons_zero, List.set_cons_succ]
              rfl
             refine two_ (i := 1) (j := 6) (Ni := some 17) (Nj := some 22) #[true, true, true, false, true, true, false, false, true, false] #[true, false, true, false, true, true, true, false, true, false] rfl rfl rfl rfl (two_of HT_.out (by kernel_rfl)) (by decide) (by decide) (fun K hK => ?_) (fun K hK => ?_)
             ·skip
              refine goes_ Try.func20 (by kernel_rfl) rfl #[.agg #[.int .i64 a0_0, .int .i64 a0_1, .slice A0_2 l0_2.length c0_2]] (by rfl) rfl rfl (by (try simp only [List.map_toArray, List.map_cons, List.map_nil]); first | done | rfl | (simp only [List.length_drop, List.length_take]; rfl)) ?_
              with_reducible refine (impl_copyMesh.calls a0_0 a0_1 _ _ l0_2 t313 t314 t315 _ ?side1 ?side2 A6.out).mono ?_
              (case side1 => exact cb_ HR0_2.out HB.out)
              (case side2 => exact HC0_2.out)
              rintro e w30 ⟨v316, rfl, ho0, hb⟩
              refine ⟨_, rfl, ?_⟩
              have HO317 := Aside0.mk (Kd.R_lower ho0 (bz_ HB.out))
              replace BK308 := kb_ BK308 hb
              replace BK309 := kb_ BK309 hb
              replace BK310 := kb_ BK310 hb
              replace BK327 := kb_ BK327 hb
              replace HB := hs_ HB hb
              (try clear hb)
              (try clear hk)
              (try clear ho0)
              refine hK.out _ _ ⟨(blk_cell BK308.out 0).trans rfl, (blk_cell BK308.out 1).trans rfl, (blk_cell BK308.out 2).trans rfl, (blk_cell BK309.out 0).trans rfl, (blk_cell BK309.out 1).trans rfl⟩ (fun hHeld => ?_)
              clear hK K
              refine norm_ (a' := ?_) ?_ ?_
              rotate_left
              ·show Act.put _ (some 17) _ = _
               simp only [Act.put, List.setIfInBounds_toArray, List.set_cons_zero, List.set_cons_succ, i64_w, i32_w]
               rfl
              exact norm_ (by simp only [putAll, Act.put, List.setIfInBounds_toArray, List.set_cons_zero, List.set_cons_succ]; first | done | rfl) (hJ1_8 (v316, gb327) _ ⟨hHeld, (ra_ HO317.out), bq_ BK308.out, bq_ BK309.out, bq_ BK310.out, bq_ BK327.out, GW327.out, GE327.out, NB308_327.out, NB327_308.out, NB309_327.out, NB327_309.out, NB310_327.out, NB327_310.out, (by repeat (first | (with_reducible first | exact HB.out | apply below_alloc | apply pw_below_drewN | apply below_drew1 | refine below_set ?_ GE308.out | refine below_set ?_ GE309.out | refine below_set ?_ GE310.out | refine below_set ?_ GE327.out) | exact HB.out))⟩)
             ·skip
              refine Kd.R_make_step (Kd.int .i64) _ 3 (by rfl) (N := 22) rfl 26 _ _ rfl ji8 rfl rfl Try.underlying26 (.int .i64 0) 8 info3 rfl (by decide) (by omega) 0 (ok := fun _ => True) (okp := fun _ => True) rfl (fun _ hk => hk) trivial (of_decide_eq_true dg_) (Nat.le_trans (Nat.mul_le_mul_right _ (of_decide_eq_true dg_ : ji8.toNat ≤ 35184372088832)) (by omega)) (Below.refl _ _) (Nat.le_refl _) ?_
              intro v325 w30 ho31 hb hg_ hnew_
              clear hg_ hnew_
              (first | rw [← Ny324.out] at ho31 | (simp only [Int.reduceToNat] at ho31; rw [← Ny324.out] at ho31))
              have n0_ := Aside0.mk (Kd.R_lower ho31 (bz_ HB.out))
              have n1_ := Aside0.mk (bk_ BK308.out hb)
              have n2_ := Aside0.mk (bk_ BK309.out hb)
              have n3_ := Aside0.mk (bk_ BK310.out hb)
              have n4_ := Aside0.mk (bk_ BK327.out hb)
              have n5_ := Aside0.mk (bs_ HB.out hb)
              clear BK308 BK309 BK310 BK327 HB
              have HO326 := n0_
              have BK308 := n1_
              have BK309 := n2_
              have BK310 := n3_
              have BK327 := n4_
              have HB := n5_
              clear n0_ n1_ n2_ n3_ n4_ n5_ hb ho31
              refine hK.out _ _ ⟨(blk_cell BK308.out 0).trans rfl, (blk_cell BK308.out 1).trans rfl, (blk_cell BK308.out 2).trans rfl, (blk_cell BK309.out 0).trans rfl, (blk_cell BK309.out 1).trans rfl⟩ (fun hHeld => ?_)
              clear hK K
              refine norm_ (a' := ?_) ?_ ?_
              rotate_left
              ·show Act.put _ (some 22) _ = _
               simp only [Act.put, List.setIfInBounds_toArray, List.set_cons_zero, List.set_cons_succ, i64_w, i32_w]
               rfl
              exact norm_ (by simp only [putAll, Act.put, List.setIfInBounds_toArray, List.set_cons_zero, List.set_cons_succ]; first | done | rfl) (hJ6_8 (v325, gb327) _ ⟨hHeld, (ra_ HO326.out), bq_ BK308.out, bq_ BK309.out, bq_ BK310.out, bq_ BK327.out, GW327.out, GE327.out, NB308_327.out, NB327_308.out, NB309_327.out, NB327_309.out, NB310_327.out, NB327_310.out, (by repeat (first | (with_reducible first | exact HB.out | apply below_alloc | apply pw_below_drewN | apply below_drew1 | refine below_set ?_ GE308.out | refine below_set ?_ GE309.out | refine below_set ?_ GE310.out | refine below_set ?_ GE327.out) | exact HB.out))⟩)
           ·skip
            rintro v325 w30 ⟨hS_, h0_, h1_, h2_, h3_, h4_⟩
            have HO326 : Aside0 (Kd.R (Kd.int .i64) 3 w30 w.heap.size (fun _ => True) v325 y324) := ⟨h0_⟩
            replace BK308 : Aside0 (w30.heap[gb308]? = some (.cells #[.int .i64 a0_0, .int .i64 a0_1, .slice A0_2 l0_2.length c0_2] 28 (0, 0))) := ⟨h1_⟩
            replace BK309 : Aside0 (w30.heap[gb309]? = some (.cells #[.slice A1_0 l1_0.length c1_0, .slice A1_1 l1_1.length c1_1] 32 (0, 0))) := ⟨h2_⟩
            replace BK310 : Aside0 (w30.heap[gb310]? = some (.cells #[.int .i64 0, .int .i64 0, .slice none 0 0, .slice none 0 0, .slice none 0 0, .slice none 0 0, .slice none 0 0, .slice none 0 0, .slice none 0 0, .slice none 0 0, .int .i64 0] 38 (0, 0))) := ⟨h3_⟩
            replace HB : Aside0 (Below w.heap.size w w30) := ⟨h4_⟩
            clear h0_ h1_ h2_ h3_ h4_
            have hHeld : w30.cell? ⟨gb308, 0, none⟩ = some (.int .i64 a0_0) ∧ w30.cell? ⟨gb308, 1, none⟩ = some (.int .i64 a0_1) ∧ w30.cell? ⟨gb308, 2, none⟩ = some (.slice A0_2 l0_2.length c0_2) ∧ w30.cell? ⟨gb309, 0, none⟩ = some (.slice A1_0 l1_0.length c1_0) ∧ w30.cell? ⟨gb309, 1, none⟩ = some (.slice A1_1 l1_1.length c1_1) := hS_
            refine norm_ (a' := ?_) ?_ ?_
            rotate_left
            ·simp only [putAll, Act.put, List.setIfInBounds_toArray, List.set_cons_zero, List.set_cons_succ]
             rfl
            refine two_ (i := 1) (j := 8) (Ni := some 17) (Nj := some 7) #[true, true, true, false, true, true, true, false, false, false] #[true, false, true, false, true, true, true, false, true, false] rfl rfl rfl rfl (two_of HT_.out (by kernel_rfl)) (by decide) (by decide) (fun K hK => ?_) (fun K hK => ?_)
            ·skip
             refine goes_ Try.func20 (by kernel_rfl) rfl #[.agg #[.int .i64 a0_0, .int .i64 a0_1, .slice A0_2 l0_2.length c0_2]] (by rfl) rfl rfl (by (try simp only [List.map_toArray, List.map_cons, List.map_nil]); first | done | rfl | (simp only [List.length_drop, List.length_take]; rfl)) ?_
             with_reducible refine (impl_copyMesh.calls a0_0 a0_1 _ _ l0_2 t313 t314 t315 _ ?side1 ?side2 A6.out).mono ?_
             (case side1 => exact cb_ HR0_2.out HB.out)
             (case side2 => exact HC0_2.out)
             rintro e w31 ⟨v316, rfl, ho0, hb⟩
             refine ⟨_, rfl, ?_⟩
             have HO317 := Aside0.mk (Kd.R_lower (Kd.R_new' ho0 (rl_ HO326.out)) (bz_ HB.out))
             replace HO326 := re_ HO326 ho0 hb
             replace BK308 := kb_ BK308 hb
             replace BK309 := kb_ BK309 hb
             replace BK310 := kb_ BK310 hb
             replace HB := hs_ HB hb
             (try clear hb)
             (try clear hk)
             (try clear ho0)
             refine hK.out _ _ ⟨(blk_cell BK308.out 0).trans rfl, (blk_cell BK308.out 1).trans rfl, (blk_cell BK308.out 2).trans rfl, (blk_cell BK309.out 0).trans rfl, (blk_cell BK309.out 1).trans rfl⟩ (fun hHeld => ?_)
             clear hK K
             refine norm_ (a' := ?_) ?_ ?_
             rotate_left
             ·show Act.put _ (some 17) _ = _
              simp only [Act.put, List.setIfInBounds_toArray, List.set_cons_zero, List.set_cons_succ, i64_w, i32_w]
              rfl
             exact norm_ (by simp only [putAll, Act.put, List.setIfInBounds_toArray, List.set_cons_zero, List.set_cons_succ]; first | done | rfl) (hJ1_6 (v316, v325) _ ⟨hHeld, (by (with_reducible repeat (first | apply Kd.R_alloc | apply Kd.R_drewN | apply Kd.R_drew)); exact Kd.R_mono HO317.out (fun _ hk => hk.2)), (by (with_reducible repeat (first | apply Kd.R_alloc | apply Kd.R_drewN | apply Kd.R_drew)); exact Kd.R_mono HO326.out (fun _ hk => hk.2)), bq_ BK308.out, bq_ BK309.out, bq_ BK310.out, (by repeat (first | (with_reducible first | exact HB.out | apply below_alloc | apply pw_below_drewN | apply below_drew1 | refine below_set ?_ GE308.out | refine below_set ?_ GE309.out | refine below_set ?_ GE310.out) | exact HB.out))⟩)
            ·skip
             refine box_step ?hg (N := 7) ?hd (cs := #[.int .i64 0, .int .i64 0, .slice none 0 0, .slice none 0 0, .slice none 0 0, .slice none 0 0, .slice none 0 0, .slice none 0 0, .slice none 0 0, .slice none 0 0, .int .i64 0]) (t := 38) ?hr ?_; (case hd => rfl); (case hg => rfl); (case hr => first | (go_simp; done) | (go_simp; rfl))
             intro gb327 hg w31 hbox hb
             have n0_ := Aside0.mk (Kd.R_below (ra_ HO326.out) hb)
             have n1_ := Aside0.mk (bk_ BK308.out hb)
             have n2_ := Aside0.mk (bk_ BK309.out hb)
             have n3_ := Aside0.mk (bk_ BK310.out hb)
             have n4_ := Aside0.mk (bs_ HB.out hb)
             have n5_ := Aside0.mk (hbox)
             have n6_ := Aside0.mk ((by rw [hg]; exact (bz_ HB.out) : w.heap.size ≤ gb327))
             have n7_ := Aside0.mk ((by rw [hg]; exact (bz_ HB.out) : w.heap.size ≤ gb327))
             have n8_ := Aside0.mk ((by rw [hg]; exact Nat.ne_of_lt (bl_ BK308.out) : gb308 ≠ gb327))
             have n9_ := Aside0.mk ((by rw [hg]; exact Nat.ne_of_gt (bl_ BK308.out) : gb327 ≠ gb308))
             have n10_ := Aside0.mk ((by rw [hg]; exact Nat.ne_of_lt (bl_ BK309.out) : gb309 ≠ gb327))
             have n11_ := Aside0.mk ((by rw [hg]; exact Nat.ne_of_gt (bl_ BK309.out) : gb327 ≠ gb309))
             have n12_ := Aside0.mk ((by rw [hg]; exact Nat.ne_of_lt (bl_ BK310.out) : gb310 ≠ gb327))
             have n13_ := Aside0.mk ((by rw [hg]; exact Nat.ne_of_gt (bl_ BK310.out) : gb327 ≠ gb310))
             clear HO326 BK308 BK309 BK310 HB
             have HO326 := n0_
             have BK308 := n1_
             have BK309 := n2_
             have BK310 := n3_
             have HB := n4_
             have BK327 := n5_
             have GW327 := n6_
             have GE327 := n7_
             have NB308_327 := n8_
             have NB327_308 := n9_
             have NB309_327 := n10_
             have NB327_309 := n11_
             have NB310_327 := n12_
             have NB327_310 := n13_
             clear n0_ n1_ n2_ n3_ n4_ n5_ n6_ n7_ n8_ n9_ n10_ n11_ n12_ n13_ hb hbox hg
             refine hK.out _ _ ⟨(blk_cell BK308.out 0).trans rfl, (blk_cell BK308.out 1).trans rfl, (blk_cell BK308.out 2).trans rfl, (blk_cell BK309.out 0).trans rfl, (blk_cell BK309.out 1).trans rfl⟩ (fun hHeld => ?_)
             clear hK K
             refine norm_ (a' := ?_) ?_ ?_
             rotate_left
             ·show Act.put _ (some 7) _ = _
              simp only [Act.put, List.setIfInBounds_toArray, List.set_cons_zero, List.set_cons_succ, i64_w, i32_w]
              rfl
             exact norm_ (by simp only [putAll, Act.put, List.setIfInBounds_toArray, List.set_cons_zero, List.set_cons_succ]; first | done | rfl) (hJ6_8 (v325, gb327) _ ⟨hHeld, (ra_ HO326.out), bq_ BK308.out, bq_ BK309.out, bq_ BK310.out, bq_ BK327.out, GW327.out, GE327.out, NB308_327.out, NB327_308.out, NB309_327.out, NB327_309.out, NB310_327.out, NB327_310.out, (by repeat (first | (with_reducible first | exact HB.out | apply below_alloc | apply pw_below_drewN | apply below_drew1 | refine below_set ?_ GE308.out | refine below_set ?_ GE309.out | refine below_set ?_ GE310.out | refine below_set ?_ GE327.out) | exact HB.out))⟩)
          ·skip
           rintro v316 w29 ⟨hS_, h0_, h1_, h2_, h3_, h4_⟩
           have HO317 : Aside0 (Kd.R (Kd.int .i64) 3 w29 w.heap.size (fun _ => True) v316 t315) := ⟨h0_⟩
           replace BK308 : Aside0 (w29.heap[gb308]? = some (.cells #[.int .i64 a0_0, .int .i64 a0_1, .slice A0_2 l0_2.length c0_2] 28 (0, 0))) := ⟨h1_⟩
           replace BK309 : Aside0 (w29.heap[gb309]? = some (.cells #[.slice A1_0 l1_0.length c1_0, .slice A1_1 l1_1.length c1_1] 32 (0, 0))) := ⟨h2_⟩
           replace BK310 : Aside0 (w29.heap[gb310]? = some (.cells #[.int .i64 0, .int .i64 0, .slice none 0 0, .slice none 0 0, .slice none 0 0, .slice none 0 0, .slice none 0 0, .slice none 0 0, .slice none 0 0, .slice none 0 0, .int .i64 0] 38 (0, 0))) := ⟨h3_⟩
           replace HB : Aside0 (Below w.heap.size w w29) := ⟨h4_⟩
           clear h0_ h1_ h2_ h3_ h4_
           have hHeld : w29.cell? ⟨gb308, 0, none⟩ = some (.int .i64 a0_0) ∧ w29.cell? ⟨gb308, 1, none⟩ = some (.int .i64 a0_1) ∧ w29.cell? ⟨gb308, 2, none⟩ = some (.slice A0_2 l0_2.length c0_2) ∧ w29.cell? ⟨gb309, 0, none⟩ = some (.slice A1_0 l1_0.length c1_0) ∧ w29.cell? ⟨gb309, 1, none⟩ = some (.slice A1_1 l1_1.length c1_1) := hS_
           refine norm_ (a' := ?_) ?_ ?_
           rotate_left
           ·simp only [putAll, Act.put, List.setIfInBounds_toArray, List.set_cons_zero, List.set_cons_succ]
            rfl
           refine three_ (i := 3) (j := 6) (k := 8) (Ni := some 19) (Nj := some 22) (Nk := some 7) #[true, true, true, true, true, true, false, false, false, false] #[true, true, true, false, true, true, true, false, false, false] #[true, true, true, false, true, true, false, false, true, false] rfl rfl rfl rfl rfl rfl (three_of HT_.out (by kernel_rfl)) (by decide) (by decide) (by decide) (fun K hK => ?_) (fun K hK => ?_) (fun K hK => ?_)
           ·skip
            refine goes_ Try.func21 (by kernel_rfl) rfl #[.agg #[.slice A1_0 l1_0.length c1_0, .slice A1_1 l1_1.length c1_1]] (by rfl) rfl rfl (by (try simp only [List.map_toArray, List.map_cons, List.map_nil]); first | done | rfl | (simp only [List.length_drop, List.length_take]; rfl)) ?_
            with_reducible refine (impl_copyClasses.calls _ _ l1_0 _ _ l1_1 t318 t321 _ ?side1 ?side2 ?side3 ?side4 A7.out).mono ?_
            (case side1 => exact cb_ HR1_0.out HB.out)
            (case side2 => exact HC1_0.out)
            (case side3 => exact cb_ HR1_1.out HB.out)
            (case side4 => exact HC1_1.out)
            rintro e w30 ⟨v319, v322, rfl, ho0, ho1, hb⟩
            refine ⟨_, rfl, ?_⟩
            have HO320 := Aside0.mk (Kd.R_lower (Kd.R_new' ho0 (rl_ HO317.out)) (bz_ HB.out))
            have HO323 := Aside0.mk (Kd.R_lower (Kd.R_new' ho1 (rl_ HO317.out)) (bz_ HB.out))
            replace HO317 := Aside0.mk (Kd.R_mono (Kd.R_told (Kd.R_told (Kd.R_old (ra_ HO317.out) hb) (Kd.R_base ho0)) (Kd.R_base ho1)) (fun _ h_ => h_.1))
            replace BK308 := kb_ BK308 hb
            replace BK309 := kb_ BK309 hb
            replace BK310 := kb_ BK310 hb
            replace HB := hs_ HB hb
            (try clear hb)
            (try clear hk)
            (try clear ho0)
            (try clear ho1)
            refine hK.out _ _ ⟨(blk_cell BK308.out 0).trans rfl, (blk_cell BK308.out 1).trans rfl, (blk_cell BK308.out 2).trans rfl, (blk_cell BK309.out 0).trans rfl, (blk_cell BK309.out 1).trans rfl⟩ (fun hHeld => ?_)
            clear hK K
            refine norm_ (a' := ?_) ?_ ?_
            rotate_left
            ·show Act.put _ (some 19) _ = _
             simp only [Act.put, List.setIfInBounds_toArray, List.set_cons_zero, List.set_cons_succ, i64_w, i32_w]
             rfl
            exact norm_ (by simp only [putAll, Act.put, List.setIfInBounds_toArray, List.set_cons_zero, List.set_cons_succ]; first | done | rfl) (hJ1_3 (v316, v319, v322) _ ⟨hHeld, (by (with_reducible repeat (first | apply Kd.R_alloc | apply Kd.R_drewN | apply Kd.R_drew)); exact Kd.R_mono HO317.out (fun _ hk => ⟨hk.1.2, hk.2⟩)), (by (with_reducible repeat (first | apply Kd.R_alloc | apply Kd.R_drewN | apply Kd.R_drew)); exact Kd.R_mono HO320.out (fun _ hk => ⟨hk.2, hk.1⟩)), (by (with_reducible repeat (first | apply Kd.R_alloc | apply Kd.R_drewN | apply Kd.R_drew)); exact Kd.R_mono HO323.out (fun _ hk => ⟨hk.2, hk.1⟩)), bq_ BK308.out, bq_ BK309.out, bq_ BK310.out, (by repeat (first | (with_reducible first | exact HB.out | apply below_alloc | apply pw_below_drewN | apply below_drew1 | refine below_set ?_ GE308.out | refine below_set ?_ GE309.out | refine below_set ?_ GE310.out) | exact HB.out))⟩)
           ·skip
            refine Kd.R_make_step (Kd.int .i64) _ 3 (by rfl) (N := 22) rfl 26 _ _ rfl ji8 rfl rfl Try.underlying26 (.int .i64 0) 8 info3 rfl (by decide) (by omega) 0 (ok := fun _ => True) (okp := fun _ => True) rfl (fun _ hk => hk) trivial (of_decide_eq_true dg_) (Nat.le_trans (Nat.mul_le_mul_right _ (of_decide_eq_true dg_ : ji8.toNat ≤ 35184372088832)) (by omega)) (Below.refl _ _) (Nat.le_refl _) ?_
            intro v325 w30 ho31 hb hg_ hnew_
            clear hg_ hnew_
            (first | rw [← Ny324.out] at ho31 | (simp only [Int.reduceToNat] at ho31; rw [← Ny324.out] at ho31))
            have n0_ := Aside0.mk (Kd.R_elder' (ra_ HO317.out) (Kd.R_base ho31) hb)
            have n1_ := Aside0.mk (Kd.R_lower (Kd.R_new' ho31 (rl_ HO317.out)) (bz_ HB.out))
            have n2_ := Aside0.mk (bk_ BK308.out hb)
            have n3_ := Aside0.mk (bk_ BK309.out hb)
            have n4_ := Aside0.mk (bk_ BK310.out hb)
            have n5_ := Aside0.mk (bs_ HB.out hb)
            clear HO317 BK308 BK309 BK310 HB
            have HO317 := n0_
            have HO326 := n1_
            have BK308 := n2_
            have BK309 := n3_
            have BK310 := n4_
            have HB := n5_
            clear n0_ n1_ n2_ n3_ n4_ n5_ hb ho31
            refine hK.out _ _ ⟨(blk_cell BK308.out 0).trans rfl, (blk_cell BK308.out 1).trans rfl, (blk_cell BK308.out 2).trans rfl, (blk_cell BK309.out 0).trans rfl, (blk_cell BK309.out 1).trans rfl⟩ (fun hHeld => ?_)
            clear hK K
            refine norm_ (a' := ?_) ?_ ?_
            rotate_left
            ·show Act.put _ (some 22) _ = _
             simp only [Act.put, List.setIfInBounds_toArray, List.set_cons_zero, List.set_cons_succ, i64_w, i32_w]
             rfl
            exact norm_ (by simp only [putAll, Act.put, List.setIfInBounds_toArray, List.set_cons_zero, List.set_cons_succ]; first | done | rfl) (hJ1_6 (v316, v325) _ ⟨hHeld, (by (with_reducible repeat (first | apply Kd.R_alloc | apply Kd.R_drewN | apply Kd.R_drew)); exact Kd.R_mono HO317.out (fun _ hk => hk.2)), (by (with_reducible repeat (first | apply Kd.R_alloc | apply Kd.R_drewN | apply Kd.R_drew)); exact Kd.R_mono HO326.out (fun _ hk => hk.2)), bq_ BK308.out, bq_ BK309.out, bq_ BK310.out, (by repeat (first | (with_reducible first | exact HB.out | apply below_alloc | apply pw_below_drewN | apply below_drew1 | refine below_set ?_ GE308.out | refine below_set ?_ GE309.out | refine below_set ?_ GE310.out) | exact HB.out))⟩)
           ·skip
            refine box_step ?hg (N := 7) ?hd (cs := #[.int .i64 0, .int .i64 0, .slice none 0 0, .slice none 0 0, .slice none 0 0, .slice none 0 0, .slice none 0 0, .slice none 0 0, .slice none 0 0, .slice none 0 0, .int .i64 0]) (t := 38) ?hr ?_; (case hd => rfl); (case hg => rfl); (case hr => first | (go_simp; done) | (go_simp; rfl))
            intro gb327 hg w30 hbox hb
            have n0_ := Aside0.mk (Kd.R_below (ra_ HO317.out) hb)
            have n1_ := Aside0.mk (bk_ BK308.out hb)
            have n2_ := Aside0.mk (bk_ BK309.out hb)
            have n3_ := Aside0.mk (bk_ BK310.out hb)
            have n4_ := Aside0.mk (bs_ HB.out hb)
            have n5_ := Aside0.mk (hbox)
            have n6_ := Aside0.mk ((by rw [hg]; exact (bz_ HB.out) : w.heap.size ≤ gb327))
            have n7_ := Aside0.mk ((by rw [hg]; exact (bz_ HB.out) : w.heap.size ≤ gb327))
            have n8_ := Aside0.mk ((by rw [hg]; exact Nat.ne_of_lt (bl_ BK308.out) : gb308 ≠ gb327))
            have n9_ := Aside0.mk ((by rw [hg]; exact Nat.ne_of_gt (bl_ BK308.out) : gb327 ≠ gb308))
            have n10_ := Aside0.mk ((by rw [hg]; exact Nat.ne_of_lt (bl_ BK309.out) : gb309 ≠ gb327))
            have n11_ := Aside0.mk ((by rw [hg]; exact Nat.ne_of_gt (bl_ BK309.out) : gb327 ≠ gb309))
            have n12_ := Aside0.mk ((by rw [hg]; exact Nat.ne_of_lt (bl_ BK310.out) : gb310 ≠ gb327))
            have n13_ := Aside0.mk ((by rw [hg]; exact Nat.ne_of_gt (bl_ BK310.out) : gb327 ≠ gb310))
            clear HO317 BK308 BK309 BK310 HB
            have HO317 := n0_
            have BK308 := n1_
            have BK309 := n2_
            have BK310 := n3_
            have HB := n4_
            have BK327 := n5_
            have GW327 := n6_
            have GE327 := n7_
            have NB308_327 := n8_
            have NB327_308 := n9_
            have NB309_327 := n10_
            have NB327_309 := n11_
            have NB310_327 := n12_
            have NB327_310 := n13_
            clear n0_ n1_ n2_ n3_ n4_ n5_ n6_ n7_ n8_ n9_ n10_ n11_ n12_ n13_ hb hbox hg
            refine hK.out _ _ ⟨(blk_cell BK308.out 0).trans rfl, (blk_cell BK308.out 1).trans rfl, (blk_cell BK308.out 2).trans rfl, (blk_cell BK309.out 0).trans rfl, (blk_cell BK309.out 1).trans rfl⟩ (fun hHeld => ?_)
            clear hK K
            refine norm_ (a' := ?_) ?_ ?_
            rotate_left
            ·show Act.put _ (some 7) _ = _
             simp only [Act.put, List.setIfInBounds_toArray, List.set_cons_zero, List.set_cons_succ, i64_w, i32_w]
             rfl
            exact norm_ (by simp only [putAll, Act.put, List.setIfInBounds_toArray, List.set_cons_zero, List.set_cons_succ]; first | done | rfl) (hJ1_8 (v316, gb327) _ ⟨hHeld, (ra_ HO317.out), bq_ BK308.out, bq_ BK309.out, bq_ BK310.out, bq_ BK327.out, GW327.out, GE327.out, NB308_327.out, NB327_308.out, NB309_327.out, NB327_309.out, NB310_327.out, NB327_310.out, (by repeat (first | (with_reducible first | exact HB.out | apply below_alloc | apply pw_below_drewN | apply below_drew1 | refine below_set ?_ GE308.out | refine below_set ?_ GE309.out | refine below_set ?_ GE310.out | refine below_set ?_ GE327.out) | exact HB.out))⟩)
         ·skip
          rintro ⟨v325, gb327⟩ w31 ⟨hS_, h0_, h1_, h2_, h3_, h4_, h5_, h6_, h7_, h8_, h9_, h10_, h11_, h12_, h13_⟩
          have HO326 : Aside0 (Kd.R (Kd.int .i64) 3 w31 w.heap.size (fun _ => True) v325 y324) := ⟨h0_⟩
          replace BK308 : Aside0 (w31.heap[gb308]? = some (.cells #[.int .i64 a0_0, .int .i64 a0_1, .slice A0_2 l0_2.length c0_2] 28 (0, 0))) := ⟨h1_⟩
          replace BK309 : Aside0 (w31.heap[gb309]? = some (.cells #[.slice A1_0 l1_0.length c1_0, .slice A1_1 l1_1.length c1_1] 32 (0, 0))) := ⟨h2_⟩
          replace BK310 : Aside0 (w31.heap[gb310]? = some (.cells #[.int .i64 0, .int .i64 0, .slice none 0 0, .slice none 0 0, .slice none 0 0, .slice none 0 0, .slice none 0 0, .slice none 0 0, .slice none 0 0, .slice none 0 0, .int .i64 0] 38 (0, 0))) := ⟨h3_⟩
          have BK327 : Aside0 (w31.heap[gb327]? = some (.cells #[.int .i64 0, .int .i64 0, .slice none 0 0, .slice none 0 0, .slice none 0 0, .slice none 0 0, .slice none 0 0, .slice none 0 0, .slice none 0 0, .slice none 0 0, .int .i64 0] 38 (0, 0))) := ⟨h4_⟩
          have GW327 : Aside0 (w.heap.size ≤ gb327) := ⟨h5_⟩
          have GE327 : Aside0 (w.heap.size ≤ gb327) := ⟨h6_⟩
          have NB308_327 : Aside0 (gb308 ≠ gb327) := ⟨h7_⟩
          have NB327_308 : Aside0 (gb327 ≠ gb308) := ⟨h8_⟩
          have NB309_327 : Aside0 (gb309 ≠ gb327) := ⟨h9_⟩
          have NB327_309 : Aside0 (gb327 ≠ gb309) := ⟨h10_⟩
          have NB310_327 : Aside0 (gb310 ≠ gb327) := ⟨h11_⟩
          have NB327_310 : Aside0 (gb327 ≠ gb310) := ⟨h12_⟩
          replace HB : Aside0 (Below w.heap.size w w31) := ⟨h13_⟩
          clear h0_ h1_ h2_ h3_ h4_ h5_ h6_ h7_ h8_ h9_ h10_ h11_ h12_ h13_
          have hHeld : w31.cell? ⟨gb308, 0, none⟩ = some (.int .i64 a0_0) ∧ w31.cell? ⟨gb308, 1, none⟩ = some (.int .i64 a0_1) ∧ w31.cell? ⟨gb308, 2, none⟩ = some (.slice A0_2 l0_2.length c0_2) ∧ w31.cell? ⟨gb309, 0, none⟩ = some (.slice A1_0 l1_0.length c1_0) ∧ w31.cell? ⟨gb309, 1, none⟩ = some (.slice A1_1 l1_1.length c1_1) := hS_
          refine norm_ (a' := ?_) ?_ ?_
          rotate_left
          ·simp only [putAll, Act.put, List.setIfInBounds_toArray, List.set_cons_zero, List.set_cons_succ]
           rfl
          refine one_ (i := 1) (N := some 17) (bt_ 10 375) rfl rfl (one_of HT_.out (by kernel_rfl)) (by decide) (fun K hK => ?_)
          refine goes_ Try.func20 (by kernel_rfl) rfl #[.agg #[.int .i64 a0_0, .int .i64 a0_1, .slice A0_2 l0_2.length c0_2]] (by rfl) rfl rfl (by (try simp only [List.map_toArray, List.map_cons, List.map_nil]); first | done | rfl | (simp only [List.length_drop, List.length_take]; rfl)) ?_
          with_reducible refine (impl_copyMesh.calls a0_0 a0_1 _ _ l0_2 t313 t314 t315 _ ?side1 ?side2 A6.out).mono ?_
          (case side1 => exact cb_ HR0_2.out HB.out)
          (case side2 => exact HC0_2.out)
          rintro e w32 ⟨v316, rfl, ho0, hb⟩
          refine ⟨_, rfl, ?_⟩
          have HO317 := Aside0.mk (Kd.R_lower (Kd.R_new' ho0 (rl_ HO326.out)) (bz_ HB.out))
          replace HO326 := re_ HO326 ho0 hb
          replace BK308 := kb_ BK308 hb
          replace BK309 := kb_ BK309 hb
          replace BK310 := kb_ BK310 hb
          replace BK327 := kb_ BK327 hb
          replace HB := hs_ HB hb
          (try clear hb)
          (try clear hk)
          (try clear ho0)
          refine hK.out _ _ ⟨(blk_cell BK308.out 0).trans rfl, (blk_cell BK308.out 1).trans rfl, (blk_cell BK308.out 2).trans rfl, (blk_cell BK309.out 0).trans rfl, (blk_cell BK309.out 1).trans rfl⟩ (fun hHeld => ?_)
          clear hK K
          refine norm_ (a' := ?_) ?_ ?_
          rotate_left
          ·show Act.put _ (some 17) _ = _
           simp only [Act.put, List.setIfInBounds_toArray, List.set_cons_zero, List.set_cons_succ, i64_w, i32_w]
           rfl
          exact norm_ (by simp only [putAll, Act.put, List.setIfInBounds_toArray, List.set_cons_zero, List.set_cons_succ]; first | done | rfl) (hJ1_6_8 (v316, v325, gb327) _ ⟨hHeld, (by (with_reducible repeat (first | apply Kd.R_alloc | apply Kd.R_drewN | apply Kd.R_drew)); exact Kd.R_mono HO317.out (fun _ hk => hk.2)), (by (with_reducible repeat (first | apply Kd.R_alloc | apply Kd.R_drewN | apply Kd.R_drew)); exact Kd.R_mono HO326.out (fun _ hk => hk.2)), bq_ BK308.out, bq_ BK309.out, bq_ BK310.out, bq_ BK327.out, GW327.out, GE327.out, NB308_327.out, NB327_308.out, NB309_327.out, NB327_309.out, NB310_327.out, NB327_310.out, (by repeat (first | (with_reducible first | exact HB.out | apply below_alloc | apply pw_below_drewN | apply below_drew1 | refine below_set ?_ GE308.out | refine below_set ?_ GE309.out | refine below_set ?_ GE310.out | refine below_set ?_ GE327.out) | exact HB.out))⟩)
        ·skip
         rintro ⟨v316, gb327⟩ w30 ⟨hS_, h0_, h1_, h2_, h3_, h4_, h5_, h6_, h7_, h8_, h9_, h10_, h11_, h12_, h13_⟩
         have HO317 : Aside0 (Kd.R (Kd.int .i64) 3 w30 w.heap.size (fun _ => True) v316 t315) := ⟨h0_⟩
         replace BK308 : Aside0 (w30.heap[gb308]? = some (.cells #[.int .i64 a0_0, .int .i64 a0_1, .slice A0_2 l0_2.length c0_2] 28 (0, 0))) := ⟨h1_⟩
         replace BK309 : Aside0 (w30.heap[gb309]? = some (.cells #[.slice A1_0 l1_0.length c1_0, .slice A1_1 l1_1.length c1_1] 32 (0, 0))) := ⟨h2_⟩
         replace BK310 : Aside0 (w30.heap[gb310]? = some (.cells #[.int .i64 0, .int .i64 0, .slice none 0 0, .slice none 0 0, .slice none 0 0, .slice none 0 0, .slice none 0 0, .slice none 0 0, .slice none 0 0, .slice none 0 0, .int .i64 0] 38 (0, 0))) := ⟨h3_⟩
         have BK327 : Aside0 (w30.heap[gb327]? = some (.cells #[.int .i64 0, .int .i64 0, .slice none 0 0, .slice none 0 0, .slice none 0 0, .slice none 0 0, .slice none 0 0, .slice none 0 0, .slice none 0 0, .slice none 0 0, .int .i64 0] 38 (0, 0))) := ⟨h4_⟩
         have GW327 : Aside0 (w.heap.size ≤ gb327) := ⟨h5_⟩
         have GE327 : Aside0 (w.heap.size ≤ gb327) := ⟨h6_⟩
         have NB308_327 : Aside0 (gb308 ≠ gb327) := ⟨h7_⟩
         have NB327_308 : Aside0 (gb327 ≠ gb308) := ⟨h8_⟩
         have NB309_327 : Aside0 (gb309 ≠ gb327) := ⟨h9_⟩
         have NB327_309 : Aside0 (gb327 ≠ gb309) := ⟨h10_⟩
         have NB310_327 : Aside0 (gb310 ≠ gb327) := ⟨h11_⟩
         have NB327_310 : Aside0 (gb327 ≠ gb310) := ⟨h12_⟩
         replace HB : Aside0 (Below w.heap.size w w30) := ⟨h13_⟩
         clear h0_ h1_ h2_ h3_ h4_ h5_ h6_ h7_ h8_ h9_ h10_ h11_ h12_ h13_
         have hHeld : w30.cell? ⟨gb308, 0, none⟩ = some (.int .i64 a0_0) ∧ w30.cell? ⟨gb308, 1, none⟩ = some (.int .i64 a0_1) ∧ w30.cell? ⟨gb308, 2, none⟩ = some (.slice A0_2 l0_2.length c0_2) ∧ w30.cell? ⟨gb309, 0, none⟩ = some (.slice A1_0 l1_0.length c1_0) ∧ w30.cell? ⟨gb309, 1, none⟩ = some (.slice A1_1 l1_1.length c1_1) := hS_
         refine norm_ (a' := ?_) ?_ ?_
         rotate_left
         ·simp only [putAll, Act.put, List.setIfInBounds_toArray, List.set_cons_zero, List.set_cons_succ]
          rfl
         refine two_ (i := 3) (j := 6) (Ni := some 19) (Nj := some 22) #[true, true, true, true, true, true, false, false, true, false] #[true, true, true, false, true, true, true, false, true, false] rfl rfl rfl rfl (two_of HT_.out (by kernel_rfl)) (by decide) (by decide) (fun K hK => ?_) (fun K hK => ?_)
         ·skip
          refine goes_ Try.func21 (by kernel_rfl) rfl #[.agg #[.slice A1_0 l1_0.length c1_0, .slice A1_1 l1_1.length c1_1]] (by rfl) rfl rfl (by (try simp only [List.map_toArray, List.map_cons, List.map_nil]); first | done | rfl | (simp only [List.length_drop, List.length_take]; rfl)) ?_
          with_reducible refine (impl_copyClasses.calls _ _ l1_0 _ _ l1_1 t318 t321 _ ?side1 ?side2 ?side3 ?side4 A7.out).mono ?_
          (case side1 => exact cb_ HR1_0.out HB.out)
          (case side2 => exact HC1_0.out)
          (case side3 => exact cb_ HR1_1.out HB.out)
          (case side4 => exact HC1_1.out)
          rintro e w31 ⟨v319, v322, rfl, ho0, ho1, hb⟩
          refine ⟨_, rfl, ?_⟩
          have HO320 := Aside0.mk (Kd.R_lower (Kd.R_new' ho0 (rl_ HO317.out)) (bz_ HB.out))
          have HO323 := Aside0.mk (Kd.R_lower (Kd.R_new' ho1 (rl_ HO317.out)) (bz_ HB.out))
          replace HO317 := Aside0.mk (Kd.R_mono (Kd.R_told (Kd.R_told (Kd.R_old (ra_ HO317.out) hb) (Kd.R_base ho0)) (Kd.R_base ho1)) (fun _ h_ => h_.1))
          replace BK308 := kb_ BK308 hb
          replace BK309 := kb_ BK309 hb
          replace BK310 := kb_ BK310 hb
          replace BK327 := kb_ BK327 hb
          replace HB := hs_ HB hb
          (try clear hb)
          (try clear hk)
          (try clear ho0)
          (try clear ho1)
          refine hK.out _ _ ⟨(blk_cell BK308.out 0).trans rfl, (blk_cell BK308.out 1).trans rfl, (blk_cell BK308.out 2).trans rfl, (blk_cell BK309.out 0).trans rfl, (blk_cell BK309.out 1).trans rfl⟩ (fun hHeld => ?_)
          clear hK K
          refine norm_ (a' := ?_) ?_ ?_
          rotate_left
          ·show Act.put _ (some 19) _ = _
           simp only [Act.put, List.setIfInBounds_toArray, List.set_cons_zero, List.set_cons_succ, i64_w, i32_w]
           rfl
          exact norm_ (by simp only [putAll, Act.put, List.setIfInBounds_toArray, List.set_cons_zero, List.set_cons_succ]; first | done | rfl) (hJ1_3_8 (v316, v319, v322, gb327) _ ⟨hHeld, (by (with_reducible repeat (first | apply Kd.R_alloc | apply Kd.R_drewN | apply Kd.R_drew)); exact Kd.R_mono HO317.out (fun _ hk => ⟨hk.1.2, hk.2⟩)), (by (with_reducible repeat (first | apply Kd.R_alloc | apply Kd.R_drewN | apply Kd.R_drew)); exact Kd.R_mono HO320.out (fun _ hk => ⟨hk.2, hk.1⟩)), (by (with_reducible repeat (first | apply Kd.R_alloc | apply Kd.R_drewN | apply Kd.R_drew)); exact Kd.R_mono HO323.out (fun _ hk => ⟨hk.2, hk.1⟩)), bq_ BK308.out, bq_ BK309.out, bq_ BK310.out, bq_ BK327.out, GW327.out, GE327.out, NB308_327.out, NB327_308.out, NB309_327.out, NB327_309.out, NB310_327.out, NB327_310.out, (by repeat (first | (with_reducible first | exact HB.out | apply below_alloc | apply pw_below_drewN | apply below_drew1 | refine below_set ?_ GE308.out | refine below_set ?_ GE309.out | refine below_set ?_ GE310.out | refine below_set ?_ GE327.out) | exact HB.out))⟩)
         ·skip
          refine Kd.R_make_step (Kd.int .i64) _ 3 (by rfl) (N := 22) rfl 26 _ _ rfl ji8 rfl rfl Try.underlying26 (.int .i64 0) 8 info3 rfl (by decide) (by omega) 0 (ok := fun _ => True) (okp := fun _ => True) rfl (fun _ hk => hk) trivial (of_decide_eq_true dg_) (Nat.le_trans (Nat.mul_le_mul_right _ (of_decide_eq_true dg_ : ji8.toNat ≤ 35184372088832)) (by omega)) (Below.refl _ _) (Nat.le_refl _) ?_
          intro v325 w31 ho32 hb hg_ hnew_
          clear hg_ hnew_
          (first | rw [← Ny324.out] at ho32 | (simp only [Int.reduceToNat] at ho32; rw [← Ny324.out] at ho32))
          have n0_ := Aside0.mk (Kd.R_elder' (ra_ HO317.out) (Kd.R_base ho32) hb)
          have n1_ := Aside0.mk (Kd.R_lower (Kd.R_new' ho32 (rl_ HO317.out)) (bz_ HB.out))
          have n2_ := Aside0.mk (bk_ BK308.out hb)
          have n3_ := Aside0.mk (bk_ BK309.out hb)
          have n4_ := Aside0.mk (bk_ BK310.out hb)
          have n5_ := Aside0.mk (bk_ BK327.out hb)
          have n6_ := Aside0.mk (bs_ HB.out hb)
          clear HO317 BK308 BK309 BK310 BK327 HB
          have HO317 := n0_
          have HO326 := n1_
          have BK308 := n2_
          have BK309 := n3_
          have BK310 := n4_
          have BK327 := n5_
          have HB := n6_
          clear n0_ n1_ n2_ n3_ n4_ n5_ n6_ hb ho32
          refine hK.out _ _ ⟨(blk_cell BK308.out 0).trans rfl, (blk_cell BK308.out 1).trans rfl, (blk_cell BK308.out 2).trans rfl, (blk_cell BK309.out 0).trans rfl, (blk_cell BK309.out 1).trans rfl⟩ (fun hHeld => ?_)
          clear hK K
          refine norm_ (a' := ?_) ?_ ?_
          rotate_left
          ·show Act.put _ (some 22) _ = _
           simp only [Act.put, List.setIfInBounds_toArray, List.set_cons_zero, List.set_cons_succ, i64_w, i32_w]
           rfl
          exact norm_ (by simp only [putAll, Act.put, List.setIfInBounds_toArray, List.set_cons_zero, List.set_cons_succ]; first | done | rfl) (hJ1_6_8 (v316, v325, gb327) _ ⟨hHeld, (by (with_reducible repeat (first | apply Kd.R_alloc | apply Kd.R_drewN | apply Kd.R_drew)); exact Kd.R_mono HO317.out (fun _ hk => hk.2)), (by (with_reducible repeat (first | apply Kd.R_alloc | apply Kd.R_drewN | apply Kd.R_drew)); exact Kd.R_mono HO326.out (fun _ hk => hk.2)), bq_ BK308.out, bq_ BK309.out, bq_ BK310.out, bq_ BK327.out, GW327.out, GE327.out, NB308_327.out, NB327_308.out, NB309_327.out, NB327_309.out, NB310_327.out, NB327_310.out, (by repeat (first | (with_reducible first | exact HB.out | apply below_alloc | apply pw_below_drewN | apply below_drew1 | refine below_set ?_ GE308.out | refine below_set ?_ GE309.out | refine below_set ?_ GE310.out | refine below_set ?_ GE327.out) | exact HB.out))⟩)
       ·skip
        rintro ⟨v316, v325⟩ w31 ⟨hS_, h0_, h1_, h2_, h3_, h4_, h5_⟩
        have HO317 : Aside0 (Kd.R (Kd.int .i64) 3 w31 w.heap.size (fun k_ => some k_ ≠ (v325 : Value).ownBlock) v316 t315) := ⟨h0_⟩
        have HO326 : Aside0 (Kd.R (Kd.int .i64) 3 w31 w.heap.size (fun k_ => some k_ ≠ (v316 : Value).ownBlock) v325 y324) := ⟨h1_⟩
        replace BK308 : Aside0 (w31.heap[gb308]? = some (.cells #[.int .i64 a0_0, .int .i64 a0_1, .slice A0_2 l0_2.length c0_2] 28 (0, 0))) := ⟨h2_⟩
        replace BK309 : Aside0 (w31.heap[gb309]? = some (.cells #[.slice A1_0 l1_0.length c1_0, .slice A1_1 l1_1.length c1_1] 32 (0, 0))) := ⟨h3_⟩
        replace BK310 : Aside0 (w31.heap[gb310]? = some (.cells #[.int .i64 0, .int .i64 0, .slice none 0 0, .slice none 0 0, .slice none 0 0, .slice none 0 0, .slice none 0 0, .slice none 0 0, .slice none 0 0, .slice none 0 0, .int .i64 0] 38 (0, 0))) := ⟨h4_⟩
        replace HB : Aside0 (Below w.heap.size w w31) := ⟨h5_⟩
        clear h0_ h1_ h2_ h3_ h4_ h5_
        have hHeld : w31.cell? ⟨gb308, 0, none⟩ = some (.int .i64 a0_0) ∧ w31.cell? ⟨gb308, 1, none⟩ = some (.int .i64 a0_1) ∧ w31.cell? ⟨gb308, 2, none⟩ = some (.slice A0_2 l0_2.length c0_2) ∧ w31.cell? ⟨gb309, 0, none⟩ = some (.slice A1_0 l1_0.length c1_0) ∧ w31.cell? ⟨gb309, 1, none⟩ = some (.slice A1_1 l1_1.length c1_1) := hS_
        refine norm_ (a' := ?_) ?_ ?_
        rotate_left
        ·simp only [putAll, Act.put, List.setIfInBounds_toArray, List.set_cons_zero, List.set_cons_succ]
         rfl
        refine two_ (i := 3) (j := 8) (Ni := some 19) (Nj := some 7) #[true, true, true, true, true, true, true, false, false, false] #[true, true, true, false, true, true, true, false, true, false] rfl rfl rfl rfl (two_of HT_.out (by kernel_rfl)) (by decide) (by decide) (fun K hK => ?_) (fun K hK => ?_)
        ·skip
         refine goes_ Try.func21 (by kernel_rfl) rfl #[.agg #[.slice A1_0 l1_0.length c1_0, .slice A1_1 l1_1.length c1_1]] (by rfl) rfl rfl (by (try simp only [List.map_toArray, List.map_cons, List.map_nil]); first | done | rfl | (simp only [List.length_drop, List.length_take]; rfl)) ?_
         with_reducible refine (impl_copyClasses.calls _ _ l1_0 _ _ l1_1 t318 t321 _ ?side1 ?side2 ?side3 ?side4 A7.out).mono ?_
         (case side1 => exact cb_ HR1_0.out HB.out)
         (case side2 => exact HC1_0.out)
         (case side3 => exact cb_ HR1_1.out HB.out)
         (case side4 => exact HC1_1.out)
         rintro e w32 ⟨v319, v322, rfl, ho0, ho1, hb⟩
         refine ⟨_, rfl, ?_⟩
         have HO320 := Aside0.mk (Kd.R_lower (Kd.R_new' (Kd.R_new' ho0 (rl_ HO317.out)) (rl_ HO326.out)) (bz_ HB.out))
         have HO323 := Aside0.mk (Kd.R_lower (Kd.R_new' (Kd.R_new' ho1 (rl_ HO317.out)) (rl_ HO326.out)) (bz_ HB.out))
         replace HO317 := Aside0.mk (Kd.R_mono (Kd.R_told (Kd.R_told (Kd.R_old (ra_ HO317.out) hb) (Kd.R_base ho0)) (Kd.R_base ho1)) (fun _ h_ => h_.1))
         replace HO326 := Aside0.mk (Kd.R_mono (Kd.R_told (Kd.R_told (Kd.R_old (ra_ HO326.out) hb) (Kd.R_base ho0)) (Kd.R_base ho1)) (fun _ h_ => h_.1))
         replace BK308 := kb_ BK308 hb
         replace BK309 := kb_ BK309 hb
         replace BK310 := kb_ BK310 hb
         replace HB := hs_ HB hb
         (try clear hb)
         (try clear hk)
         (try clear ho0)
         (try clear ho1)
         obtain ⟨Ao33, co33, eo33⟩ := Kd.R_slice HO326.out
         (first | subst eo33 | (injection eo33 with f1_ f2_ f3_; have f4_ := f1_.symm; have f5_ := f3_.symm; clear f1_ f2_ f3_; subst f4_; subst f5_))
         obtain ⟨Ao34, co34, eo34⟩ := Kd.R_slice HO323.out
         (first | subst eo34 | (injection eo34 with f1_ f2_ f3_; have f4_ := f1_.symm; have f5_ := f3_.symm; clear f1_ f2_ f3_; subst f4_; subst f5_))
         obtain ⟨Ao35, co35, eo35⟩ := Kd.R_slice HO320.out
         (first | subst eo35 | (injection eo35 with f1_ f2_ f3_; have f4_ := f1_.symm; have f5_ := f3_.symm; clear f1_ f2_ f3_; subst f4_; subst f5_))
         obtain ⟨Ao36, co36, eo36⟩ := Kd.R_slice HO317.out
         (first | subst eo36 | (injection eo36 with f1_ f2_ f3_; have f4_ := f1_.symm; have f5_ := f3_.symm; clear f1_ f2_ f3_; subst f4_; subst f5_))
         refine hK.out _ _ ⟨(blk_cell BK308.out 0).trans rfl, (blk_cell BK308.out 1).trans rfl, (blk_cell BK308.out 2).trans rfl, (blk_cell BK309.out 0).trans rfl, (blk_cell BK309.out 1).trans rfl⟩ (fun hHeld => ?_)
         clear hK K
         refine norm_ (a' := ?_) ?_ ?_
         rotate_left
         ·show Act.put _ (some 19) _ = _
          simp only [Act.put, List.setIfInBounds_toArray, List.set_cons_zero, List.set_cons_succ, i64_w, i32_w]
          rfl
         refine pu_ 7 23 (bt_ 10 255) HT_ ?_
         exact norm_ (by simp only [putAll, Act.put, List.setIfInBounds_toArray, List.set_cons_zero, List.set_cons_succ]; first | done | rfl) (hJ1_3_6 (.slice Ao36 t315.length co36, .slice Ao35 t318.length co35, .slice Ao34 t321.length co34, .slice Ao33 y324.length co33) _ ⟨hHeld, (by (with_reducible repeat (first | apply Kd.R_alloc | apply Kd.R_drewN | apply Kd.R_drew)); exact Kd.R_mono HO317.out (fun _ hk => ⟨hk.1.2, ⟨hk.2, hk.1.1⟩⟩)), (by (with_reducible repeat (first | apply Kd.R_alloc | apply Kd.R_drewN | apply Kd.R_drew)); exact Kd.R_mono HO320.out (fun _ hk => ⟨hk.1.2, ⟨hk.1.1, hk.2⟩⟩)), (by (with_reducible repeat (first | apply Kd.R_alloc | apply Kd.R_drewN | apply Kd.R_drew)); exact Kd.R_mono HO323.out (fun _ hk => ⟨hk.1.2, ⟨hk.1.1, hk.2⟩⟩)), (by (with_reducible repeat (first | apply Kd.R_alloc | apply Kd.R_drewN | apply Kd.R_drew)); exact Kd.R_mono HO326.out (fun _ hk => ⟨hk.1.1, ⟨hk.1.2, hk.2⟩⟩)), bq_ BK308.out, bq_ BK309.out, bq_ BK310.out, (by repeat (first | (with_reducible first | exact HB.out | apply below_alloc | apply pw_below_drewN | apply below_drew1 | refine below_set ?_ GE308.out | refine below_set ?_ GE309.out | refine below_set ?_ GE310.out) | exact HB.out))⟩)
        ·skip
         refine box_step ?hg (N := 7) ?hd (cs := #[.int .i64 0, .int .i64 0, .slice none 0 0, .slice none 0 0, .slice none 0 0, .slice none 0 0, .slice none 0 0, .slice none 0 0, .slice none 0 0, .slice none 0 0, .int .i64 0]) (t := 38) ?hr ?_; (case hd => rfl); (case hg => rfl); (case hr => first | (go_simp; done) | (go_simp; rfl))
         intro gb327 hg w32 hbox hb
         have n0_ := Aside0.mk (Kd.R_below (ra_ HO317.out) hb)
         have n1_ := Aside0.mk (Kd.R_below (ra_ HO326.out) hb)
         have n2_ := Aside0.mk (bk_ BK308.out hb)
         have n3_ := Aside0.mk (bk_ BK309.out hb)
         have n4_ := Aside0.mk (bk_ BK310.out hb)
         have n5_ := Aside0.mk (bs_ HB.out hb)
         have n6_ := Aside0.mk (hbox)
         have n7_ := Aside0.mk ((by rw [hg]; exact (bz_ HB.out) : w.heap.size ≤ gb327))
         have n8_ := Aside0.mk ((by rw [hg]; exact (bz_ HB.out) : w.heap.size ≤ gb327))
         have n9_ := Aside0.mk ((by rw [hg]; exact Nat.ne_of_lt (bl_ BK308.out) : gb308 ≠ gb327))
         have n10_ := Aside0.mk ((by rw [hg]; exact Nat.ne_of_gt (bl_ BK308.out) : gb327 ≠ gb308))
         have n11_ := Aside0.mk ((by rw [hg]; exact Nat.ne_of_lt (bl_ BK309.out) : gb309 ≠ gb327))
         have n12_ := Aside0.mk ((by rw [hg]; exact Nat.ne_of_gt (bl_ BK309.out) : gb327 ≠ gb309))
         have n13_ := Aside0.mk ((by rw [hg]; exact Nat.ne_of_lt (bl_ BK310.out) : gb310 ≠ gb327))
         have n14_ := Aside0.mk ((by rw [hg]; exact Nat.ne_of_gt (bl_ BK310.out) : gb327 ≠ gb310))
         clear HO317 HO326 BK308 BK309 BK310 HB
         have HO317 := n0_
         have HO326 := n1_
         have BK308 := n2_
         have BK309 := n3_
         have BK310 := n4_
         have HB := n5_
         have BK327 := n6_
         have GW327 := n7_
         have GE327 := n8_
         have NB308_327 := n9_
         have NB327_308 := n10_
         have NB309_327 := n11_
         have NB327_309 := n12_
         have NB310_327 := n13_
         have NB327_310 := n14_
         clear n0_ n1_ n2_ n3_ n4_ n5_ n6_ n7_ n8_ n9_ n10_ n11_ n12_ n13_ n14_ hb hbox hg
         refine hK.out _ _ ⟨(blk_cell BK308.out 0).trans rfl, (blk_cell BK308.out 1).trans rfl, (blk_cell BK308.out 2).trans rfl, (blk_cell BK309.out 0).trans rfl, (blk_cell BK309.out 1).trans rfl⟩ (fun hHeld => ?_)
         clear hK K
         refine norm_ (a' := ?_) ?_ ?_
         rotate_left
         ·show Act.put _ (some 7) _ = _
          simp only [Act.put, List.setIfInBounds_toArray, List.set_cons_zero, List.set_cons_succ, i64_w, i32_w]
          rfl
         exact norm_ (by simp only [putAll, Act.put, List.setIfInBounds_toArray, List.set_cons_zero, List.set_cons_succ]; first | done | rfl) (hJ1_6_8 (v316, v325, gb327) _ ⟨hHeld, (ra_ HO317.out), (ra_ HO326.out), bq_ BK308.out, bq_ BK309.out, bq_ BK310.out, bq_ BK327.out, GW327.out, GE327.out, NB308_327.out, NB327_308.out, NB309_327.out, NB327_309.out, NB310_327.out, NB327_310.out, (by repeat (first | (with_reducible first | exact HB.out | apply below_alloc | apply pw_below_drewN | apply below_drew1 | refine below_set ?_ GE308.out | refine below_set ?_ GE309.out | refine below_set ?_ GE310.out | refine below_set ?_ GE327.out) | exact HB.out))⟩)
      ·skip
       rintro ⟨v316, v319, v322⟩ w30 ⟨hS_, h0_, h1_, h2_, h3_, h4_, h5_, h6_⟩
       have HO317 : Aside0 (Kd.R (Kd.int .i64) 3 w30 w.heap.size (fun k_ => some k_ ≠ (v319 : Value).ownBlock ∧ some k_ ≠ (v322 : Value).ownBlock) v316 t315) := ⟨h0_⟩
       have HO320 : Aside0 (Kd.R (Kd.int .i64) 3 w30 w.heap.size (fun k_ => some k_ ≠ (v316 : Value).ownBlock ∧ some k_ ≠ (v322 : Value).ownBlock) v319 t318) := ⟨h1_⟩
       have HO323 : Aside0 (Kd.R (Kd.int .i64) 3 w30 w.heap.size (fun k_ => some k_ ≠ (v316 : Value).ownBlock ∧ some k_ ≠ (v319 : Value).ownBlock) v322 t321) := ⟨h2_⟩
       replace BK308 : Aside0 (w30.heap[gb308]? = some (.cells #[.int .i64 a0_0, .int .i64 a0_1, .slice A0_2 l0_2.length c0_2] 28 (0, 0))) := ⟨h3_⟩
       replace BK309 : Aside0 (w30.heap[gb309]? = some (.cells #[.slice A1_0 l1_0.length c1_0, .slice A1_1 l1_1.length c1_1] 32 (0, 0))) := ⟨h4_⟩
       replace BK310 : Aside0 (w30.heap[gb310]? = some (.cells #[.int .i64 0, .int .i64 0, .slice none 0 0, .slice none 0 0, .slice none 0 0, .slice none 0 0, .slice none 0 0, .slice none 0 0, .slice none 0 0, .slice none 0 0, .int .i64 0] 38 (0, 0))) := ⟨h5_⟩
       replace HB : Aside0 (Below w.heap.size w w30) := ⟨h6_⟩
       clear h0_ h1_ h2_ h3_ h4_ h5_ h6_
       have hHeld : w30.cell? ⟨gb308, 0, none⟩ = some (.int .i64 a0_0) ∧ w30.cell? ⟨gb308, 1, none⟩ = some (.int .i64 a0_1) ∧ w30.cell? ⟨gb308, 2, none⟩ = some (.slice A0_2 l0_2.length c0_2) ∧ w30.cell? ⟨gb309, 0, none⟩ = some (.slice A1_0 l1_0.length c1_0) ∧ w30.cell? ⟨gb309, 1, none⟩ = some (.slice A1_1 l1_1.length c1_1) := hS_
       refine norm_ (a' := ?_) ?_ ?_
       rotate_left
       ·simp only [putAll, Act.put, List.setIfInBounds_toArray, List.set_cons_zero, List.set_cons_succ]
        rfl
       refine two_ (i := 6) (j := 8) (Ni := some 22) (Nj := some 7) #[true, true, true, true, true, true, true, false, false, false] #[true, true, true, true, true, true, false, false, true, false] rfl rfl rfl rfl (two_of HT_.out (by kernel_rfl)) (by decide) (by decide) (fun K hK => ?_) (fun K hK => ?_)
       ·skip
        refine Kd.R_make_step (Kd.int .i64) _ 3 (by rfl) (N := 22) rfl 26 _ _ rfl ji8 rfl rfl Try.underlying26 (.int .i64 0) 8 info3 rfl (by decide) (by omega) 0 (ok := fun _ => True) (okp := fun _ => True) rfl (fun _ hk => hk) trivial (of_decide_eq_true dg_) (Nat.le_trans (Nat.mul_le_mul_right _ (of_decide_eq_true dg_ : ji8.toNat ≤ 35184372088832)) (by omega)) (Below.refl _ _) (Nat.le_refl _) ?_
        intro v325 w31 ho32 hb hg_ hnew_
        clear hg_ hnew_
        (first | rw [← Ny324.out] at ho32 | (simp only [Int.reduceToNat] at ho32; rw [← Ny324.out] at ho32))
        have n0_ := Aside0.mk (Kd.R_elder' (ra_ HO317.out) (Kd.R_base ho32) hb)
        have n1_ := Aside0.mk (Kd.R_elder' (ra_ HO320.out) (Kd.R_base ho32) hb)
        have n2_ := Aside0.mk (Kd.R_elder' (ra_ HO323.out) (Kd.R_base ho32) hb)
        have n3_ := Aside0.mk (Kd.R_lower (Kd.R_new' (Kd.R_new' (Kd.R_new' ho32 (rl_ HO317.out)) (rl_ HO320.out)) (rl_ HO323.out)) (bz_ HB.out))
        have n4_ := Aside0.mk (bk_ BK308.out hb)
        have n5_ := Aside0.mk (bk_ BK309.out hb)
        have n6_ := Aside0.mk (bk_ BK310.out hb)
        have n7_ := Aside0.mk (bs_ HB.out hb)
        clear HO317 HO320 HO323 BK308 BK309 BK310 HB
        have HO317 := n0_
        have HO320 := n1_
        have HO323 := n2_
        have HO326 := n3_
        have BK308 := n4_
        have BK309 := n5_
        have BK310 := n6_
        have HB := n7_
        clear n0_ n1_ n2_ n3_ n4_ n5_ n6_ n7_ hb ho32
        obtain ⟨Ao33, co33, eo33⟩ := Kd.R_slice HO326.out
        (first | subst eo33 | (injection eo33 with f1_ f2_ f3_; have f4_ := f1_.symm; have f5_ := f3_.symm; clear f1_ f2_ f3_; subst f4_; subst f5_))
        obtain ⟨Ao34, co34, eo34⟩ := Kd.R_slice HO323.out
        (first | subst eo34 | (injection eo34 with f1_ f2_ f3_; have f4_ := f1_.symm; have f5_ := f3_.symm; clear f1_ f2_ f3_; subst f4_; subst f5_))
        obtain ⟨Ao35, co35, eo35⟩ := Kd.R_slice HO320.out
        (first | subst eo35 | (injection eo35 with f1_ f2_ f3_; have f4_ := f1_.symm; have f5_ := f3_.symm; clear f1_ f2_ f3_; subst f4_; subst f5_))
        obtain ⟨Ao36, co36, eo36⟩ := Kd.R_slice HO317.out
        (first | subst eo36 | (injection eo36 with f1_ f2_ f3_; have f4_ := f1_.symm; have f5_ := f3_.symm; clear f1_ f2_ f3_; subst f4_; subst f5_))
        refine hK.out _ _ ⟨(blk_cell BK308.out 0).trans rfl, (blk_cell BK308.out 1).trans rfl, (blk_cell BK308.out 2).trans rfl, (blk_cell BK309.out 0).trans rfl, (blk_cell BK309.out 1).trans rfl⟩ (fun hHeld => ?_)
        clear hK K
        refine norm_ (a' := ?_) ?_ ?_
        rotate_left
        ·show Act.put _ (some 22) _ = _
         simp only [Act.put, List.setIfInBounds_toArray, List.set_cons_zero, List.set_cons_succ, i64_w, i32_w]
         rfl
        refine pu_ 7 23 (bt_ 10 255) HT_ ?_
        exact norm_ (by simp only [putAll, Act.put, List.setIfInBounds_toArray, List.set_cons_zero, List.set_cons_succ]; first | done | rfl) (hJ1_3_6 (.slice Ao36 t315.length co36, .slice Ao35 t318.length co35, .slice Ao34 t321.length co34, .slice Ao33 y324.length co33) _ ⟨hHeld, (by (with_reducible repeat (first | apply Kd.R_alloc | apply Kd.R_drewN | apply Kd.R_drew)); exact Kd.R_mono HO317.out (fun _ hk => ⟨hk.1.1, ⟨hk.1.2, hk.2⟩⟩)), (by (with_reducible repeat (first | apply Kd.R_alloc | apply Kd.R_drewN | apply Kd.R_drew)); exact Kd.R_mono HO320.out (fun _ hk => ⟨hk.1.1, ⟨hk.1.2, hk.2⟩⟩)), (by (with_reducible repeat (first | apply Kd.R_alloc | apply Kd.R_drewN | apply Kd.R_drew)); exact Kd.R_mono HO323.out (fun _ hk => ⟨hk.1.1, ⟨hk.1.2, hk.2⟩⟩)), (by (with_reducible repeat (first | apply Kd.R_alloc | apply Kd.R_drewN | apply Kd.R_drew)); exact Kd.R_mono HO326.out (fun _ hk => ⟨hk.1.1.2, ⟨hk.1.2, hk.2⟩⟩)), bq_ BK308.out, bq_ BK309.out, bq_ BK310.out, (by repeat (first | (with_reducible first | exact HB.out | apply below_alloc | apply pw_below_drewN | apply below_drew1 | refine below_set ?_ GE308.out | refine below_set ?_ GE309.out | refine below_set ?_ GE310.out) | exact HB.out))⟩)
       ·skip
        refine box_step ?hg (N := 7) ?hd (cs := #[.int .i64 0, .int .i64 0, .slice none 0 0, .slice none 0 0, .slice none 0 0, .slice none 0 0, .slice none 0 0, .slice none 0 0, .slice none 0 0, .slice none 0 0, .int .i64 0]) (t := 38) ?hr ?_; (case hd => rfl); (case hg => rfl); (case hr => first | (go_simp; done) | (go_simp; rfl))
        intro gb327 hg w31 hbox hb
        have n0_ := Aside0.mk (Kd.R_below (ra_ HO317.out) hb)
        have n1_ := Aside0.mk (Kd.R_below (ra_ HO320.out) hb)
        have n2_ := Aside0.mk (Kd.R_below (ra_ HO323.out) hb)
        have n3_ := Aside0.mk (bk_ BK308.out hb)
        have n4_ := Aside0.mk (bk_ BK309.out hb)
        have n5_ := Aside0.mk (bk_ BK310.out hb)
        have n6_ := Aside0.mk (bs_ HB.out hb)
        have n7_ := Aside0.mk (hbox)
        have n8_ := Aside0.mk ((by rw [hg]; exact (bz_ HB.out) : w.heap.size ≤ gb327))
        have n9_ := Aside0.mk ((by rw [hg]; exact (bz_ HB.out) : w.heap.size ≤ gb327))
        have n10_ := Aside0.mk ((by rw [hg]; exact Nat.ne_of_lt (bl_ BK308.out) : gb308 ≠ gb327))
        have n11_ := Aside0.mk ((by rw [hg]; exact Nat.ne_of_gt (bl_ BK308.out) : gb327 ≠ gb308))
        have n12_ := Aside0.mk ((by rw [hg]; exact Nat.ne_of_lt (bl_ BK309.out) : gb309 ≠ gb327))
        have n13_ := Aside0.mk ((by rw [hg]; exact Nat.ne_of_gt (bl_ BK309.out) : gb327 ≠ gb309))
        have n14_ := Aside0.mk ((by rw [hg]; exact Nat.ne_of_lt (bl_ BK310.out) : gb310 ≠ gb327))
        have n15_ := Aside0.mk ((by rw [hg]; exact Nat.ne_of_gt (bl_ BK310.out) : gb327 ≠ gb310))
        clear HO317 HO320 HO323 BK308 BK309 BK310 HB
        have HO317 := n0_
        have HO320 := n1_
        have HO323 := n2_
        have BK308 := n3_
        have BK309 := n4_
        have BK310 := n5_
        have HB := n6_
        have BK327 := n7_
        have GW327 := n8_
        have GE327 := n9_
        have NB308_327 := n10_
        have NB327_308 := n11_
        have NB309_327 := n12_
        have NB327_309 := n13_
        have NB310_327 := n14_
        have NB327_310 := n15_
        clear n0_ n1_ n2_ n3_ n4_ n5_ n6_ n7_ n8_ n9_ n10_ n11_ n12_ n13_ n14_ n15_ hb hbox hg
        refine hK.out _ _ ⟨(blk_cell BK308.out 0).trans rfl, (blk_cell BK308.out 1).trans rfl, (blk_cell BK308.out 2).trans rfl, (blk_cell BK309.out 0).trans rfl, (blk_cell BK309.out 1).trans rfl⟩ (fun hHeld => ?_)
        clear hK K
        refine norm_ (a' := ?_) ?_ ?_
        rotate_left
        ·show Act.put _ (some 7) _ = _
         simp only [Act.put, List.setIfInBounds_toArray, List.set_cons_zero, List.set_cons_succ, i64_w, i32_w]
         rfl
        exact norm_ (by simp only [putAll, Act.put, List.setIfInBounds_toArray, List.set_cons_zero, List.set_cons_succ]; first | done | rfl) (hJ1_3_8 (v316, v319, v322, gb327) _ ⟨hHeld, (ra_ HO317.out), (ra_ HO320.out), (ra_ HO323.out), bq_ BK308.out, bq_ BK309.out, bq_ BK310.out, bq_ BK327.out, GW327.out, GE327.out, NB308_327.out, NB327_308.out, NB309_327.out, NB327_309.out, NB310_327.out, NB327_310.out, (by repeat (first | (with_reducible first | exact HB.out | apply below_alloc | apply pw_below_drewN | apply below_drew1 | refine below_set ?_ GE308.out | refine below_set ?_ GE309.out | refine below_set ?_ GE310.out | refine below_set ?_ GE327.out) | exact HB.out))⟩)
     ·skip
      rintro ⟨v316, v325, gb327⟩ w32 ⟨hS_, h0_, h1_, h2_, h3_, h4_, h5_, h6_, h7_, h8_, h9_, h10_, h11_, h12_, h13_, h14_⟩
      have HO317 : Aside0 (Kd.R (Kd.int .i64) 3 w32 w.heap.size (fun k_ => some k_ ≠ (v325 : Value).ownBlock) v316 t315) := ⟨h0_⟩
      have HO326 : Aside0 (Kd.R (Kd.int .i64) 3 w32 w.heap.size (fun k_ => some k_ ≠ (v316 : Value).ownBlock) v325 y324) := ⟨h1_⟩
      replace BK308 : Aside0 (w32.heap[gb308]? = some (.cells #[.int .i64 a0_0, .int .i64 a0_1, .slice A0_2 l0_2.length c0_2] 28 (0, 0))) := ⟨h2_⟩
      replace BK309 : Aside0 (w32.heap[gb309]? = some (.cells #[.slice A1_0 l1_0.length c1_0, .slice A1_1 l1_1.length c1_1] 32 (0, 0))) := ⟨h3_⟩
      replace BK310 : Aside0 (w32.heap[gb310]? = some (.cells #[.int .i64 0, .int .i64 0, .slice none 0 0, .slice none 0 0, .slice none 0 0, .slice none 0 0, .slice none 0 0, .slice none 0 0, .slice none 0 0, .slice none 0 0, .int .i64 0] 38 (0, 0))) := ⟨h4_⟩
      have BK327 : Aside0 (w32.heap[gb327]? = some (.cells #[.int .i64 0, .int .i64 0, .slice none 0 0, .slice none 0 0, .slice none 0 0, .slice none 0 0, .slice none 0 0, .slice none 0 0, .slice none 0 0, .slice none 0 0, .int .i64 0] 38 (0, 0))) := ⟨h5_⟩
      have GW327 : Aside0 (w.heap.size ≤ gb327) := ⟨h6_⟩
      have GE327 : Aside0 (w.heap.size ≤ gb327) := ⟨h7_⟩
      have NB308_327 : Aside0 (gb308 ≠ gb327) := ⟨h8_⟩
      have NB327_308 : Aside0 (gb327 ≠ gb308) := ⟨h9_⟩
      have NB309_327 : Aside0 (gb309 ≠ gb327) := ⟨h10_⟩
      have NB327_309 : Aside0 (gb327 ≠ gb309) := ⟨h11_⟩
      have NB310_327 : Aside0 (gb310 ≠ gb327) := ⟨h12_⟩
      have NB327_310 : Aside0 (gb327 ≠ gb310) := ⟨h13_⟩
      replace HB : Aside0 (Below w.heap.size w w32) := ⟨h14_⟩
      clear h0_ h1_ h2_ h3_ h4_ h5_ h6_ h7_ h8_ h9_ h10_ h11_ h12_ h13_ h14_
      have hHeld : w32.cell? ⟨gb308, 0, none⟩ = some (.int .i64 a0_0) ∧ w32.cell? ⟨gb308, 1, none⟩ = some (.int .i64 a0_1) ∧ w32.cell? ⟨gb308, 2, none⟩ = some (.slice A0_2 l0_2.length c0_2) ∧ w32.cell? ⟨gb309, 0, none⟩ = some (.slice A1_0 l1_0.length c1_0) ∧ w32.cell? ⟨gb309, 1, none⟩ = some (.slice A1_1 l1_1.length c1_1) := hS_
      refine norm_ (a' := ?_) ?_ ?_
      rotate_left
      ·simp only [putAll, Act.put, List.setIfInBounds_toArray, List.set_cons_zero, List.set_cons_succ]
       rfl
      refine one_ (i := 3) (N := some 19) (bt_ 10 383) rfl rfl (one_of HT_.out (by kernel_rfl)) (by decide) (fun K hK => ?_)
      refine goes_ Try.func21 (by kernel_rfl) rfl #[.agg #[.slice A1_0 l1_0.length c1_0, .slice A1_1 l1_1.length c1_1]] (by rfl) rfl rfl (by (try simp only [List.map_toArray, List.map_cons, List.map_nil]); first | done | rfl | (simp only [List.length_drop, List.length_take]; rfl)) ?_
      with_reducible refine (impl_copyClasses.calls _ _ l1_0 _ _ l1_1 t318 t321 _ ?side1 ?side2 ?side3 ?side4 A7.out).mono ?_
      (case side1 => exact cb_ HR1_0.out HB.out)
      (case side2 => exact HC1_0.out)
      (case side3 => exact cb_ HR1_1.out HB.out)
      (case side4 => exact HC1_1.out)
      rintro e w33 ⟨v319, v322, rfl, ho0, ho1, hb⟩
      refine ⟨_, rfl, ?_⟩
      have HO320 := Aside0.mk (Kd.R_lower (Kd.R_new' (Kd.R_new' ho0 (rl_ HO317.out)) (rl_ HO326.out)) (bz_ HB.out))
      have HO323 := Aside0.mk (Kd.R_lower (Kd.R_new' (Kd.R_new' ho1 (rl_ HO317.out)) (rl_ HO326.out)) (bz_ HB.out))
      replace HO317 := Aside0.mk (Kd.R_mono (Kd.R_told (Kd.R_told (Kd.R_old (ra_ HO317.out) hb) (Kd.R_base ho0)) (Kd.R_base ho1)) (fun _ h_ => h_.1))
      replace HO326 := Aside0.mk (Kd.R_mono (Kd.R_told (Kd.R_told (Kd.R_old (ra_ HO326.out) hb) (Kd.R_base ho0)) (Kd.R_base ho1)) (fun _ h_ => h_.1))
      replace BK308 := kb_ BK308 hb
      replace BK309 := kb_ BK309 hb
      replace BK310 := kb_ BK310 hb
      replace BK327 := kb_ BK327 hb
      replace HB := hs_ HB hb
      (try clear hb)
      (try clear hk)
      (try clear ho0)
      (try clear ho1)
      obtain ⟨Ao34, co34, eo34⟩ := Kd.R_slice HO326.out
      (first | subst eo34 | (injection eo34 with f1_ f2_ f3_; have f4_ := f1_.symm; have f5_ := f3_.symm; clear f1_ f2_ f3_; subst f4_; subst f5_))
      obtain ⟨Ao35, co35, eo35⟩ := Kd.R_slice HO323.out
      (first | subst eo35 | (injection eo35 with f1_ f2_ f3_; have f4_ := f1_.symm; have f5_ := f3_.symm; clear f1_ f2_ f3_; subst f4_; subst f5_))
      obtain ⟨Ao36, co36, eo36⟩ := Kd.R_slice HO320.out
      (first | subst eo36 | (injection eo36 with f1_ f2_ f3_; have f4_ := f1_.symm; have f5_ := f3_.symm; clear f1_ f2_ f3_; subst f4_; subst f5_))
      obtain ⟨Ao37, co37, eo37⟩ := Kd.R_slice HO317.out
      (first | subst eo37 | (injection eo37 with f1_ f2_ f3_; have f4_ := f1_.symm; have f5_ := f3_.symm; clear f1_ f2_ f3_; subst f4_; subst f5_))
      refine hK.out _ _ ⟨(blk_cell BK308.out 0).trans rfl, (blk_cell BK308.out 1).trans rfl, (blk_cell BK308.out 2).trans rfl, (blk_cell BK309.out 0).trans rfl, (blk_cell BK309.out 1).trans rfl⟩ (fun hHeld => ?_)
      clear hK K
      refine norm_ (a' := ?_) ?_ ?_
      rotate_left
      ·show Act.put _ (some 19) _ = _
       simp only [Act.put, List.setIfInBounds_toArray, List.set_cons_zero, List.set_cons_succ, i64_w, i32_w]
       rfl
      refine pu_ 7 23 (bt_ 10 511) HT_ ?_
      exact norm_ (by simp only [putAll, Act.put, List.setIfInBounds_toArray, List.set_cons_zero, List.set_cons_succ]; first | done | rfl) (hJ1_3_6_8 (.slice Ao37 t315.length co37, .slice Ao36 t318.length co36, .slice Ao35 t321.length co35, .slice Ao34 y324.length co34, gb327) _ ⟨hHeld, (by (with_reducible repeat (first | apply Kd.R_alloc | apply Kd.R_drewN | apply Kd.R_drew)); exact Kd.R_mono HO317.out (fun _ hk => ⟨hk.1.2, ⟨hk.2, hk.1.1⟩⟩)), (by (with_reducible repeat (first | apply Kd.R_alloc | apply Kd.R_drewN | apply Kd.R_drew)); exact Kd.R_mono HO320.out (fun _ hk => ⟨hk.1.2, ⟨hk.1.1, hk.2⟩⟩)), (by (with_reducible repeat (first | apply Kd.R_alloc | apply Kd.R_drewN | apply Kd.R_drew)); exact Kd.R_mono HO323.out (fun _ hk => ⟨hk.1.2, ⟨hk.1.1, hk.2⟩⟩)), (by (with_reducible repeat (first | apply Kd.R_alloc | apply Kd.R_drewN | apply Kd.R_drew)); exact Kd.R_mono HO326.out (fun _ hk => ⟨hk.1.1, ⟨hk.1.2, hk.2⟩⟩)), bq_ BK308.out, bq_ BK309.out, bq_ BK310.out, bq_ BK327.out, GW327.out, GE327.out, NB308_327.out, NB327_308.out, NB309_327.out, NB327_309.out, NB310_327.out, NB327_310.out, (by repeat (first | (with_reducible first | exact HB.out | apply below_alloc | apply pw_below_drewN | apply below_drew1 | refine below_set ?_ GE308.out | refine below_set ?_ GE309.out | refine below_set ?_ GE310.out | refine below_set ?_ GE327.out) | exact HB.out))⟩)
    ·skip
     rintro ⟨v316, v319, v322, gb327⟩ w31 ⟨hS_, h0_, h1_, h2_, h3_, h4_, h5_, h6_, h7_, h8_, h9_, h10_, h11_, h12_, h13_, h14_, h15_⟩
     have HO317 : Aside0 (Kd.R (Kd.int .i64) 3 w31 w.heap.size (fun k_ => some k_ ≠ (v319 : Value).ownBlock ∧ some k_ ≠ (v322 : Value).ownBlock) v316 t315) := ⟨h0_⟩
     have HO320 : Aside0 (Kd.R (Kd.int .i64) 3 w31 w.heap.size (fun k_ => some k_ ≠ (v316 : Value).ownBlock ∧ some k_ ≠ (v322 : Value).ownBlock) v319 t318) := ⟨h1_⟩
     have HO323 : Aside0 (Kd.R (Kd.int .i64) 3 w31 w.heap.size (fun k_ => some k_ ≠ (v316 : Value).ownBlock ∧ some k_ ≠ (v319 : Value).ownBlock) v322 t321) := ⟨h2_⟩
     replace BK308 : Aside0 (w31.heap[gb308]? = some (.cells #[.int .i64 a0_0, .int .i64 a0_1, .slice A0_2 l0_2.length c0_2] 28 (0, 0))) := ⟨h3_⟩
     replace BK309 : Aside0 (w31.heap[gb309]? = some (.cells #[.slice A1_0 l1_0.length c1_0, .slice A1_1 l1_1.length c1_1] 32 (0, 0))) := ⟨h4_⟩
     replace BK310 : Aside0 (w31.heap[gb310]? = some (.cells #[.int .i64 0, .int .i64 0, .slice none 0 0, .slice none 0 0, .slice none 0 0, .slice none 0 0, .slice none 0 0, .slice none 0 0, .slice none 0 0, .slice none 0 0, .int .i64 0] 38 (0, 0))) := ⟨h5_⟩
     have BK327 : Aside0 (w31.heap[gb327]? = some (.cells #[.int .i64 0, .int .i64 0, .slice none 0 0, .slice none 0 0, .slice none 0 0, .slice none 0 0, .slice none 0 0, .slice none 0 0, .slice none 0 0, .slice none 0 0, .int .i64 0] 38 (0, 0))) := ⟨h6_⟩
     have GW327 : Aside0 (w.heap.size ≤ gb327) := ⟨h7_⟩
     have GE327 : Aside0 (w.heap.size ≤ gb327) := ⟨h8_⟩
     have NB308_327 : Aside0 (gb308 ≠ gb327) := ⟨h9_⟩
     have NB327_308 : Aside0 (gb327 ≠ gb308) := ⟨h10_⟩
     have NB309_327 : Aside0 (gb309 ≠ gb327) := ⟨h11_⟩
     have NB327_309 : Aside0 (gb327 ≠ gb309) := ⟨h12_⟩
     have NB310_327 : Aside0 (gb310 ≠ gb327) := ⟨h13_⟩
     have NB327_310 : Aside0 (gb327 ≠ gb310) := ⟨h14_⟩
     replace HB : Aside0 (Below w.heap.size w w31) := ⟨h15_⟩
     clear h0_ h1_ h2_ h3_ h4_ h5_ h6_ h7_ h8_ h9_ h10_ h11_ h12_ h13_ h14_ h15_
     have hHeld : w31.cell? ⟨gb308, 0, none⟩ = some (.int .i64 a0_0) ∧ w31.cell? ⟨gb308, 1, none⟩ = some (.int .i64 a0_1) ∧ w31.cell? ⟨gb308, 2, none⟩ = some (.slice A0_2 l0_2.length c0_2) ∧ w31.cell? ⟨gb309, 0, none⟩ = some (.slice A1_0 l1_0.length c1_0) ∧ w31.cell? ⟨gb309, 1, none⟩ = some (.slice A1_1 l1_1.length c1_1) := hS_
     refine norm_ (a' := ?_) ?_ ?_
     rotate_left
     ·simp only [putAll, Act.put, List.setIfInBounds_toArray, List.set_cons_zero, List.set_cons_succ]
      rfl
     refine one_ (i := 6) (N := some 22) (bt_ 10 383) rfl rfl (one_of HT_.out (by kernel_rfl)) (by decide) (fun K hK => ?_)
     refine Kd.R_make_step (Kd.int .i64) _ 3 (by rfl) (N := 22) rfl 26 _ _ rfl ji8 rfl rfl Try.underlying26 (.int .i64 0) 8 info3 rfl (by decide) (by omega) 0 (ok := fun _ => True) (okp := fun _ => True) rfl (fun _ hk => hk) trivial (of_decide_eq_true dg_) (Nat.le_trans (Nat.mul_le_mul_right _ (of_decide_eq_true dg_ : ji8.toNat ≤ 35184372088832)) (by omega)) (Below.refl _ _) (Nat.le_refl _) ?_
     intro v325 w32 ho33 hb hg_ hnew_
     clear hg_ hnew_
     (first | rw [← Ny324.out] at ho33 | (simp only [Int.reduceToNat] at ho33; rw [← Ny324.out] at ho33))
     have n0_ := Aside0.mk (Kd.R_elder' (ra_ HO317.out) (Kd.R_base ho33) hb)
     have n1_ := Aside0.mk (Kd.R_elder' (ra_ HO320.out) (Kd.R_base ho33) hb)
     have n2_ := Aside0.mk (Kd.R_elder' (ra_ HO323.out) (Kd.R_base ho33) hb)
     have n3_ := Aside0.mk (Kd.R_lower (Kd.R_new' (Kd.R_new' (Kd.R_new' ho33 (rl_ HO317.out)) (rl_ HO320.out)) (rl_ HO323.out)) (bz_ HB.out))
     have n4_ := Aside0.mk (bk_ BK308.out hb)
     have n5_ := Aside0.mk (bk_ BK309.out hb)
     have n6_ := Aside0.mk (bk_ BK310.out hb)
     have n7_ := Aside0.mk (bk_ BK327.out hb)
     have n8_ := Aside0.mk (bs_ HB.out hb)
     clear HO317 HO320 HO323 BK308 BK309 BK310 BK327 HB
     have HO317 := n0_
     have HO320 := n1_
     have HO323 := n2_
     have HO326 := n3_
     have BK308 := n4_
     have BK309 := n5_
     have BK310 := n6_
     have BK327 := n7_
     have HB := n8_
     clear n0_ n1_ n2_ n3_ n4_ n5_ n6_ n7_ n8_ hb ho33
     obtain ⟨Ao34, co34, eo34⟩ := Kd.R_slice HO326.out
     (first | subst eo34 | (injection eo34 with f1_ f2_ f3_; have f4_ := f1_.symm; have f5_ := f3_.symm; clear f1_ f2_ f3_; subst f4_; subst f5_))
     obtain ⟨Ao35, co35, eo35⟩ := Kd.R_slice HO323.out
     (first | subst eo35 | (injection eo35 with f1_ f2_ f3_; have f4_ := f1_.symm; have f5_ := f3_.symm; clear f1_ f2_ f3_; subst f4_; subst f5_))
     obtain ⟨Ao36, co36, eo36⟩ := Kd.R_slice HO320.out
     (first | subst eo36 | (injection eo36 with f1_ f2_ f3_; have f4_ := f1_.symm; have f5_ := f3_.symm; clear f1_ f2_ f3_; subst f4_; subst f5_))
     obtain ⟨Ao37, co37, eo37⟩ := Kd.R_slice HO317.out
     (first | subst eo37 | (injection eo37 with f1_ f2_ f3_; have f4_ := f1_.symm; have f5_ := f3_.symm; clear f1_ f2_ f3_; subst f4_; subst f5_))
     refine hK.out _ _ ⟨(blk_cell BK308.out 0).trans rfl, (blk_cell BK308.out 1).trans rfl, (blk_cell BK308.out 2).trans rfl, (blk_cell BK309.out 0).trans rfl, (blk_cell BK309.out 1).trans rfl⟩ (fun hHeld => ?_)
     clear hK K
     refine norm_ (a' := ?_) ?_ ?_
     rotate_left
     ·show Act.put _ (some 22) _ = _
      simp only [Act.put, List.setIfInBounds_toArray, List.set_cons_zero, List.set_cons_succ, i64_w, i32_w]
      rfl
     refine pu_ 7 23 (bt_ 10 511) HT_ ?_
     exact norm_ (by simp only [putAll, Act.put, List.setIfInBounds_toArray, List.set_cons_zero, List.set_cons_succ]; first | done | rfl) (hJ1_3_6_8 (.slice Ao37 t315.length co37, .slice Ao36 t318.length co36, .slice Ao35 t321.length co35, .slice Ao34 y324.length co34, gb327) _ ⟨hHeld, (by (with_reducible repeat (first | apply Kd.R_alloc | apply Kd.R_drewN | apply Kd.R_drew)); exact Kd.R_mono HO317.out (fun _ hk => ⟨hk.1.1, ⟨hk.1.2, hk.2⟩⟩)), (by (with_reducible repeat (first | apply Kd.R_alloc | apply Kd.R_drewN | apply Kd.R_drew)); exact Kd.R_mono HO320.out (fun _ hk => ⟨hk.1.1, ⟨hk.1.2, hk.2⟩⟩)), (by (with_reducible repeat (first | apply Kd.R_alloc | apply Kd.R_drewN | apply Kd.R_drew)); exact Kd.R_mono HO323.out (fun _ hk => ⟨hk.1.1, ⟨hk.1.2, hk.2⟩⟩)), (by (with_reducible repeat (first | apply Kd.R_alloc | apply Kd.R_drewN | apply Kd.R_drew)); exact Kd.R_mono HO326.out (fun _ hk => ⟨hk.1.1.2, ⟨hk.1.2, hk.2⟩⟩)), bq_ BK308.out, bq_ BK309.out, bq_ BK310.out, bq_ BK327.out, GW327.out, GE327.out, NB308_327.out, NB327_308.out, NB309_327.out, NB327_309.out, NB310_327.out, NB327_310.out, (by repeat (first | (with_reducible first | exact HB.out | apply below_alloc | apply pw_below_drewN | apply below_drew1 | refine below_set ?_ GE308.out | refine below_set ?_ GE309.out | refine below_set ?_ GE310.out | refine below_set ?_ GE327.out) | exact HB.out))⟩)
   ·skip
    rintro ⟨v316, v319, v322, v325⟩ w36 ⟨hS_, h0_, h1_, h2_, h3_, h4_, h5_, h6_, h7_⟩
    have HO317 : Aside0 (Kd.R (Kd.int .i64) 3 w36 w.heap.size (fun k_ => some k_ ≠ (v319 : Value).ownBlock ∧ some k_ ≠ (v322 : Value).ownBlock ∧ some k_ ≠ (v325 : Value).ownBlock) v316 t315) := ⟨h0_⟩
    have HO320 : Aside0 (Kd.R (Kd.int .i64) 3 w36 w.heap.size (fun k_ => some k_ ≠ (v316 : Value).ownBlock ∧ some k_ ≠ (v322 : Value).ownBlock ∧ some k_ ≠ (v325 : Value).ownBlock) v319 t318) := ⟨h1_⟩
    have HO323 : Aside0 (Kd.R (Kd.int .i64) 3 w36 w.heap.size (fun k_ => some k_ ≠ (v316 : Value).ownBlock ∧ some k_ ≠ (v319 : Value).ownBlock ∧ some k_ ≠ (v325 : Value).ownBlock) v322 t321) := ⟨h2_⟩
    have HO326 : Aside0 (Kd.R (Kd.int .i64) 3 w36 w.heap.size (fun k_ => some k_ ≠ (v316 : Value).ownBlock ∧ some k_ ≠ (v319 : Value).ownBlock ∧ some k_ ≠ (v322 : Value).ownBlock) v325 y324) := ⟨h3_⟩
    replace BK308 : Aside0 (w36.heap[gb308]? = some (.cells #[.int .i64 a0_0, .int .i64 a0_1, .slice A0_2 l0_2.length c0_2] 28 (0, 0))) := ⟨h4_⟩
    replace BK309 : Aside0 (w36.heap[gb309]? = some (.cells #[.slice A1_0 l1_0.length c1_0, .slice A1_1 l1_1.length c1_1] 32 (0, 0))) := ⟨h5_⟩
    replace BK310 : Aside0 (w36.heap[gb310]? = some (.cells #[.int .i64 0, .int .i64 0, .slice none 0 0, .slice none 0 0, .slice none 0 0, .slice none 0 0, .slice none 0 0, .slice none 0 0, .slice none 0 0, .slice none 0 0, .int .i64 0] 38 (0, 0))) := ⟨h6_⟩
    replace HB : Aside0 (Below w.heap.size w w36) := ⟨h7_⟩
    clear h0_ h1_ h2_ h3_ h4_ h5_ h6_ h7_
    have hHeld : w36.cell? ⟨gb308, 0, none⟩ = some (.int .i64 a0_0) ∧ w36.cell? ⟨gb308, 1, none⟩ = some (.int .i64 a0_1) ∧ w36.cell? ⟨gb308, 2, none⟩ = some (.slice A0_2 l0_2.length c0_2) ∧ w36.cell? ⟨gb309, 0, none⟩ = some (.slice A1_0 l1_0.length c1_0) ∧ w36.cell? ⟨gb309, 1, none⟩ = some (.slice A1_1 l1_1.length c1_1) := hS_
    obtain ⟨Ao37, co37, eo37⟩ := Kd.R_slice HO326.out
    (first | subst eo37 | (injection eo37 with f1_ f2_ f3_; have f4_ := f1_.symm; have f5_ := f3_.symm; clear f1_ f2_ f3_; subst f4_; subst f5_))
    obtain ⟨Ao38, co38, eo38⟩ := Kd.R_slice HO323.out
    (first | subst eo38 | (injection eo38 with f1_ f2_ f3_; have f4_ := f1_.symm; have f5_ := f3_.symm; clear f1_ f2_ f3_; subst f4_; subst f5_))
    obtain ⟨Ao39, co39, eo39⟩ := Kd.R_slice HO320.out
    (first | subst eo39 | (injection eo39 with f1_ f2_ f3_; have f4_ := f1_.symm; have f5_ := f3_.symm; clear f1_ f2_ f3_; subst f4_; subst f5_))
    obtain ⟨Ao40, co40, eo40⟩ := Kd.R_slice HO317.out
    (first | subst eo40 | (injection eo40 with f1_ f2_ f3_; have f4_ := f1_.symm; have f5_ := f3_.symm; clear f1_ f2_ f3_; subst f4_; subst f5_))
    refine norm_ (a' := ?_) ?_ ?_
    rotate_left
    ·simp only [putAll, Act.put, List.setIfInBounds_toArray, List.set_cons_zero, List.set_cons_succ]
     rfl
    refine one_ (i := 8) (N := some 7) (bt_ 10 511) rfl rfl (one_of HT_.out (by kernel_rfl)) (by decide) (fun K hK => ?_)
    refine box_step ?hg (N := 7) ?hd (cs := #[.int .i64 0, .int .i64 0, .slice none 0 0, .slice none 0 0, .slice none 0 0, .slice none 0 0, .slice none 0 0, .slice none 0 0, .slice none 0 0, .slice none 0 0, .int .i64 0]) (t := 38) ?hr ?_; (case hd => rfl); (case hg => rfl); (case hr => first | (go_simp; done) | (go_simp; rfl))
    intro gb327 hg w41 hbox hb
    have n0_ := Aside0.mk (Kd.R_below (ra_ HO317.out) hb)
    have n1_ := Aside0.mk (Kd.R_below (ra_ HO320.out) hb)
    have n2_ := Aside0.mk (Kd.R_below (ra_ HO323.out) hb)
    have n3_ := Aside0.mk (Kd.R_below (ra_ HO326.out) hb)
    have n4_ := Aside0.mk (bk_ BK308.out hb)
    have n5_ := Aside0.mk (bk_ BK309.out hb)
    have n6_ := Aside0.mk (bk_ BK310.out hb)
    have n7_ := Aside0.mk (bs_ HB.out hb)
    have n8_ := Aside0.mk (hbox)
    have n9_ := Aside0.mk ((by rw [hg]; exact (bz_ HB.out) : w.heap.size ≤ gb327))
    have n10_ := Aside0.mk ((by rw [hg]; exact (bz_ HB.out) : w.heap.size ≤ gb327))
    have n11_ := Aside0.mk ((by rw [hg]; exact Nat.ne_of_lt (bl_ BK308.out) : gb308 ≠ gb327))
    have n12_ := Aside0.mk ((by rw [hg]; exact Nat.ne_of_gt (bl_ BK308.out) : gb327 ≠ gb308))
    have n13_ := Aside0.mk ((by rw [hg]; exact Nat.ne_of_lt (bl_ BK309.out) : gb309 ≠ gb327))
    have n14_ := Aside0.mk ((by rw [hg]; exact Nat.ne_of_gt (bl_ BK309.out) : gb327 ≠ gb309))
    have n15_ := Aside0.mk ((by rw [hg]; exact Nat.ne_of_lt (bl_ BK310.out) : gb310 ≠ gb327))
    have n16_ := Aside0.mk ((by rw [hg]; exact Nat.ne_of_gt (bl_ BK310.out) : gb327 ≠ gb310))
    clear HO317 HO320 HO323 HO326 BK308 BK309 BK310 HB
    have HO317 := n0_
    have HO320 := n1_
    have HO323 := n2_
    have HO326 := n3_
    have BK308 := n4_
    have BK309 := n5_
    have BK310 := n6_
    have HB := n7_
    have BK327 := n8_
    have GW327 := n9_
    have GE327 := n10_
    have NB308_327 := n11_
    have NB327_308 := n12_
    have NB309_327 := n13_
    have NB327_309 := n14_
    have NB310_327 := n15_
    have NB327_310 := n16_
    clear n0_ n1_ n2_ n3_ n4_ n5_ n6_ n7_ n8_ n9_ n10_ n11_ n12_ n13_ n14_ n15_ n16_ hb hbox hg
    refine hK.out _ _ ⟨(blk_cell BK308.out 0).trans rfl, (blk_cell BK308.out 1).trans rfl, (blk_cell BK308.out 2).trans rfl, (blk_cell BK309.out 0).trans rfl, (blk_cell BK309.out 1).trans rfl⟩ (fun hHeld => ?_)
    clear hK K
    refine norm_ (a' := ?_) ?_ ?_
    rotate_left
    ·show Act.put _ (some 7) _ = _
     simp only [Act.put, List.setIfInBounds_toArray, List.set_cons_zero, List.set_cons_succ, i64_w, i32_w]
     rfl
    exact norm_ (by simp only [putAll, Act.put, List.setIfInBounds_toArray, List.set_cons_zero, List.set_cons_succ]; first | done | rfl) (hJ1_3_6_8 (.slice Ao40 t315.length co40, .slice Ao39 t318.length co39, .slice Ao38 t321.length co38, .slice Ao37 y324.length co37, gb327) _ ⟨hHeld, (ra_ HO317.out), (ra_ HO320.out), (ra_ HO323.out), (ra_ HO326.out), bq_ BK308.out, bq_ BK309.out, bq_ BK310.out, bq_ BK327.out, GW327.out, GE327.out, NB308_327.out, NB327_308.out, NB309_327.out, NB327_309.out, NB310_327.out, NB327_310.out, (by repeat (first | (with_reducible first | exact HB.out | apply below_alloc | apply pw_below_drewN | apply below_drew1 | refine below_set ?_ GE308.out | refine below_set ?_ GE309.out | refine below_set ?_ GE310.out | refine below_set ?_ GE327.out) | exact HB.out))⟩)
  rintro ⟨v316, v319, v322, v325, gb327⟩ w37 ⟨hS_, h0_, h1_, h2_, h3_, h4_, h5_, h6_, h7_, h8_, h9_, h10_, h11_, h12_, h13_, h14_, h15_, h16_⟩
  have HO317 : Aside0 (Kd.R (Kd.int .i64) 3 w37 w.heap.size (fun k_ => some k_ ≠ (v319 : Value).ownBlock ∧ some k_ ≠ (v322 : Value).ownBlock ∧ some k_ ≠ (v325 : Value).ownBlock) v316 t315) := ⟨h0_⟩
  have HO320 : Aside0 (Kd.R (Kd.int .i64) 3 w37 w.heap.size (fun k_ => some k_ ≠ (v316 : Value).ownBlock ∧ some k_ ≠ (v322 : Value).ownBlock ∧ some k_ ≠ (v325 : Value).ownBlock) v319 t318) := ⟨h1_⟩
  have HO323 : Aside0 (Kd.R (Kd.int .i64) 3 w37 w.heap.size (fun k_ => some k_ ≠ (v316 : Value).ownBlock ∧ some k_ ≠ (v319 : Value).ownBlock ∧ some k_ ≠ (v325 : Value).ownBlock) v322 t321) := ⟨h2_⟩
  have HO326 : Aside0 (Kd.R (Kd.int .i64) 3 w37 w.heap.size (fun k_ => some k_ ≠ (v316 : Value).ownBlock ∧ some k_ ≠ (v319 : Value).ownBlock ∧ some k_ ≠ (v322 : Value).ownBlock) v325 y324) := ⟨h3_⟩
  replace BK308 : Aside0 (w37.heap[gb308]? = some (.cells #[.int .i64 a0_0, .int .i64 a0_1, .slice A0_2 l0_2.length c0_2] 28 (0, 0))) := ⟨h4_⟩
  replace BK309 : Aside0 (w37.heap[gb309]? = some (.cells #[.slice A1_0 l1_0.length c1_0, .slice A1_1 l1_1.length c1_1] 32 (0, 0))) := ⟨h5_⟩
  replace BK310 : Aside0 (w37.heap[gb310]? = some (.cells #[.int .i64 0, .int .i64 0, .slice none 0 0, .slice none 0 0, .slice none 0 0, .slice none 0 0, .slice none 0 0, .slice none 0 0, .slice none 0 0, .slice none 0 0, .int .i64 0] 38 (0, 0))) := ⟨h6_⟩
  have BK327 : Aside0 (w37.heap[gb327]? = some (.cells #[.int .i64 0, .int .i64 0, .slice none 0 0, .slice none 0 0, .slice none 0 0, .slice none 0 0, .slice none 0 0, .slice none 0 0, .slice none 0 0, .slice none 0 0, .int .i64 0] 38 (0, 0))) := ⟨h7_⟩
  have GW327 : Aside0 (w.heap.size ≤ gb327) := ⟨h8_⟩
  have GE327 : Aside0 (w.heap.size ≤ gb327) := ⟨h9_⟩
  have NB308_327 : Aside0 (gb308 ≠ gb327) := ⟨h10_⟩
  have NB327_308 : Aside0 (gb327 ≠ gb308) := ⟨h11_⟩
  have NB309_327 : Aside0 (gb309 ≠ gb327) := ⟨h12_⟩
  have NB327_309 : Aside0 (gb327 ≠ gb309) := ⟨h13_⟩
  have NB310_327 : Aside0 (gb310 ≠ gb327) := ⟨h14_⟩
  have NB327_310 : Aside0 (gb327 ≠ gb310) := ⟨h15_⟩
  replace HB : Aside0 (Below w.heap.size w w37) := ⟨h16_⟩
  clear h0_ h1_ h2_ h3_ h4_ h5_ h6_ h7_ h8_ h9_ h10_ h11_ h12_ h13_ h14_ h15_ h16_
  have hHeld : w37.cell? ⟨gb308, 0, none⟩ = some (.int .i64 a0_0) ∧ w37.cell? ⟨gb308, 1, none⟩ = some (.int .i64 a0_1) ∧ w37.cell? ⟨gb308, 2, none⟩ = some (.slice A0_2 l0_2.length c0_2) ∧ w37.cell? ⟨gb309, 0, none⟩ = some (.slice A1_0 l1_0.length c1_0) ∧ w37.cell? ⟨gb309, 1, none⟩ = some (.slice A1_1 l1_1.length c1_1) := hS_
  obtain ⟨Ao38, co38, eo38⟩ := Kd.R_slice HO326.out
  (first | subst eo38 | (injection eo38 with f1_ f2_ f3_; have f4_ := f1_.symm; have f5_ := f3_.symm; clear f1_ f2_ f3_; subst f4_; subst f5_))
  obtain ⟨Ao39, co39, eo39⟩ := Kd.R_slice HO323.out
  (first | subst eo39 | (injection eo39 with f1_ f2_ f3_; have f4_ := f1_.symm; have f5_ := f3_.symm; clear f1_ f2_ f3_; subst f4_; subst f5_))
  obtain ⟨Ao40, co40, eo40⟩ := Kd.R_slice HO320.out
  (first | subst eo40 | (injection eo40 with f1_ f2_ f3_; have f4_ := f1_.symm; have f5_ := f3_.symm; clear f1_ f2_ f3_; subst f4_; subst f5_))
  obtain ⟨Ao41, co41, eo41⟩ := Kd.R_slice HO317.out
  (first | subst eo41 | (injection eo41 with f1_ f2_ f3_; have f4_ := f1_.symm; have f5_ := f3_.symm; clear f1_ f2_ f3_; subst f4_; subst f5_))
  refine norm_ (a' := ?_) ?_ ?_
  rotate_left
  ·simp only [putAll, Act.put, List.setIfInBounds_toArray, List.set_cons_zero, List.set_cons_succ]
   rfl
  refine one_ (i := 9) (N := none) (bt_ 10 1023) rfl rfl (one_of HT_.out (by kernel_rfl)) (by decide) (fun K hK => ?_)
  have hs42 : w37.cell? ⟨gb327, 0, none⟩ = some (.int .i64 0) := (blk_cell BK327.out 0).trans rfl
  have hfs42 := blk_frozen BK327.out 0
  have hns42_0 := NB308_327.out
  have hns42_1 := NB309_327.out
  have hns42_2 := NB310_327.out
  have hms42_0 := NB327_308.out
  have hms42_1 := NB327_309.out
  have hms42_2 := NB327_310.out
  have hs43 : w37.cell? ⟨gb327, 1, none⟩ = some (.int .i64 0) := (blk_cell BK327.out 1).trans rfl
  have hfs43 := blk_frozen BK327.out 1
  have hns43_0 := NB308_327.out
  have hns43_1 := NB309_327.out
  have hns43_2 := NB310_327.out
  have hms43_0 := NB327_308.out
  have hms43_1 := NB327_309.out
  have hms43_2 := NB327_310.out
  have hs44 : w37.cell? ⟨gb327, 2, none⟩ = some (.slice none 0 0) := (blk_cell BK327.out 2).trans rfl
  have hfs44 := blk_frozen BK327.out 2
  have hns44_0 := NB308_327.out
  have hns44_1 := NB309_327.out
  have hns44_2 := NB310_327.out
  have hms44_0 := NB327_308.out
  have hms44_1 := NB327_309.out
  have hms44_2 := NB327_310.out
  have hs45 : w37.cell? ⟨gb327, 3, none⟩ = some (.slice none 0 0) := (blk_cell BK327.out 3).trans rfl
  have hfs45 := blk_frozen BK327.out 3
  have hns45_0 := NB308_327.out
  have hns45_1 := NB309_327.out
  have hns45_2 := NB310_327.out
  have hms45_0 := NB327_308.out
  have hms45_1 := NB327_309.out
  have hms45_2 := NB327_310.out
  have hs46 : w37.cell? ⟨gb327, 4, none⟩ = some (.slice none 0 0) := (blk_cell BK327.out 4).trans rfl
  have hfs46 := blk_frozen BK327.out 4
  have hns46_0 := NB308_327.out
  have hns46_1 := NB309_327.out
  have hns46_2 := NB310_327.out
  have hms46_0 := NB327_308.out
  have hms46_1 := NB327_309.out
  have hms46_2 := NB327_310.out
  have hs47 : w37.cell? ⟨gb327, 5, none⟩ = some (.slice none 0 0) := (blk_cell BK327.out 5).trans rfl
  have hfs47 := blk_frozen BK327.out 5
  have hns47_0 := NB308_327.out
  have hns47_1 := NB309_327.out
  have hns47_2 := NB310_327.out
  have hms47_0 := NB327_308.out
  have hms47_1 := NB327_309.out
  have hms47_2 := NB327_310.out
  have hs48 : w37.cell? ⟨gb327, 6, none⟩ = some (.slice none 0 0) := (blk_cell BK327.out 6).trans rfl
  have hfs48 := blk_frozen BK327.out 6
  have hns48_0 := NB308_327.out
  have hns48_1 := NB309_327.out
  have hns48_2 := NB310_327.out
  have hms48_0 := NB327_308.out
  have hms48_1 := NB327_309.out
  have hms48_2 := NB327_310.out
  have hs49 : w37.cell? ⟨gb327, 7, none⟩ = some (.slice none 0 0) := (blk_cell BK327.out 7).trans rfl
  have hfs49 := blk_frozen BK327.out 7
  have hns49_0 := NB308_327.out
  have hns49_1 := NB309_327.out
  have hns49_2 := NB310_327.out
  have hms49_0 := NB327_308.out
  have hms49_1 := NB327_309.out
  have hms49_2 := NB327_310.out
  have hs50 : w37.cell? ⟨gb327, 8, none⟩ = some (.slice none 0 0) := (blk_cell BK327.out 8).trans rfl
  have hfs50 := blk_frozen BK327.out 8
  have hns50_0 := NB308_327.out
  have hns50_1 := NB309_327.out
  have hns50_2 := NB310_327.out
  have hms50_0 := NB327_308.out
  have hms50_1 := NB327_309.out
  have hms50_2 := NB327_310.out
  have hs51 : w37.cell? ⟨gb327, 9, none⟩ = some (.slice none 0 0) := (blk_cell BK327.out 9).trans rfl
  have hfs51 := blk_frozen BK327.out 9
  have hns51_0 := NB308_327.out
  have hns51_1 := NB309_327.out
  have hns51_2 := NB310_327.out
  have hms51_0 := NB327_308.out
  have hms51_1 := NB327_309.out
  have hms51_2 := NB327_310.out
  have hs52 : w37.cell? ⟨gb327, 10, none⟩ = some (.int .i64 0) := (blk_cell BK327.out 10).trans rfl
  have hfs52 := blk_frozen BK327.out 10
  have hns52_0 := NB308_327.out
  have hns52_1 := NB309_327.out
  have hns52_2 := NB310_327.out
  have hms52_0 := NB327_308.out
  have hms52_1 := NB327_309.out
  have hms52_2 := NB327_310.out
  refine skip_ (w1 := ?_) (by rfl) rfl ?_ ?_
  rotate_left
  ·go_simp
   rfl
  refine hK.out _ _ ⟨((cell_far (p := ⟨gb327, _, none⟩) NB308_327.out _).trans (((cell_far (p := ⟨gb327, _, none⟩) NB308_327.out _).trans (((cell_far (p := ⟨gb327, _, none⟩) NB308_327.out _).trans (((cell_far (p := ⟨gb327, _, none⟩) NB308_327.out _).trans (((cell_far (p := ⟨gb327, _, none⟩) NB308_327.out _).trans (((cell_far (p := ⟨gb327, _, none⟩) NB308_327.out _).trans (((cell_far (p := ⟨gb327, _, none⟩) NB308_327.out _).trans (((cell_far (p := ⟨gb327, _, none⟩) NB308_327.out _).trans (((cell_far (p := ⟨gb327, _, none⟩) NB308_327.out _).trans (((cell_far (p := ⟨gb327, _, none⟩) NB308_327.out _).trans (((cell_far (p := ⟨gb327, _, none⟩) NB308_327.out _).trans (hHeld.1)))))))))))))))))))))), ((cell_far (p := ⟨gb327, _, none⟩) NB308_327.out _).trans (((cell_far (p := ⟨gb327, _, none⟩) NB308_327.out _).trans (((cell_far (p := ⟨gb327, _, none⟩) NB308_327.out _).trans (((cell_far (p := ⟨gb327, _, none⟩) NB308_327.out _).trans (((cell_far (p := ⟨gb327, _, none⟩) NB308_327.out _).trans (((cell_far (p := ⟨gb327, _, none⟩) NB308_327.out _).trans (((cell_far (p := ⟨gb327, _, none⟩) NB308_327.out _).trans (((cell_far (p := ⟨gb327, _, none⟩) NB308_327.out _).trans (((cell_far (p := ⟨gb327, _, none⟩) NB308_327.out _).trans (((cell_far (p := ⟨gb327, _, none⟩) NB308_327.out _).trans (((cell_far (p := ⟨gb327, _, none⟩) NB308_327.out _).trans (hHeld.2.1)))))))))))))))))))))), ((cell_far (p := ⟨gb327, _, none⟩) NB308_327.out _).trans (((cell_far (p := ⟨gb327, _, none⟩) NB308_327.out _).trans (((cell_far (p := ⟨gb327, _, none⟩) NB308_327.out _).trans (((cell_far (p := ⟨gb327, _, none⟩) NB308_327.out _).trans (((cell_far (p := ⟨gb327, _, none⟩) NB308_327.out _).trans (((cell_far (p := ⟨gb327, _, none⟩) NB308_327.out _).trans (((cell_far (p := ⟨gb327, _, none⟩) NB308_327.out _).trans (((cell_far (p := ⟨gb327, _, none⟩) NB308_327.out _).trans (((cell_far (p := ⟨gb327, _, none⟩) NB308_327.out _).trans (((cell_far (p := ⟨gb327, _, none⟩) NB308_327.out _).trans (((cell_far (p := ⟨gb327, _, none⟩) NB308_327.out _).trans (hHeld.2.2.1)))))))))))))))))))))), ((cell_far (p := ⟨gb327, _, none⟩) NB309_327.out _).trans (((cell_far (p := ⟨gb327, _, none⟩) NB309_327.out _).trans (((cell_far (p := ⟨gb327, _, none⟩) NB309_327.out _).trans (((cell_far (p := ⟨gb327, _, none⟩) NB309_327.out _).trans (((cell_far (p := ⟨gb327, _, none⟩) NB309_327.out _).trans (((cell_far (p := ⟨gb327, _, none⟩) NB309_327.out _).trans (((cell_far (p := ⟨gb327, _, none⟩) NB309_327.out _).trans (((cell_far (p := ⟨gb327, _, none⟩) NB309_327.out _).trans (((cell_far (p := ⟨gb327, _, none⟩) NB309_327.out _).trans (((cell_far (p := ⟨gb327, _, none⟩) NB309_327.out _).trans (((cell_far (p := ⟨gb327, _, none⟩) NB309_327.out _).trans (hHeld.2.2.2.1)))))))))))))))))))))), ((cell_far (p := ⟨gb327, _, none⟩) NB309_327.out _).trans (((cell_far (p := ⟨gb327, _, none⟩) NB309_327.out _).trans (((cell_far (p := ⟨gb327, _, none⟩) NB309_327.out _).trans (((cell_far (p := ⟨gb327, _, none⟩) NB309_327.out _).trans (((cell_far (p := ⟨gb327, _, none⟩) NB309_327.out _).trans (((cell_far (p := ⟨gb327, _, none⟩) NB309_327.out _).trans (((cell_far (p := ⟨gb327, _, none⟩) NB309_327.out _).trans (((cell_far (p := ⟨gb327, _, none⟩) NB309_327.out _).trans (((cell_far (p := ⟨gb327, _, none⟩) NB309_327.out _).trans (((cell_far (p := ⟨gb327, _, none⟩) NB309_327.out _).trans (((cell_far (p := ⟨gb327, _, none⟩) NB309_327.out _).trans (hHeld.2.2.2.2))))))))))))))))))))))⟩ (fun hHeld => ?_)
  clear hK K
  refine done_ (done_of HT_.out (by kernel_rfl)) ?_
  try go_wp2
  have n0_ : Aside0 (Kd.R (Kd.int .i64) 3 (((((((((((w37.setCell ⟨gb327, 0, none⟩ (.int .i64 t313)).setCell ⟨gb327, 1, none⟩ (.int .i64 t314)).setCell ⟨gb327, 2, none⟩ (.slice Ao41 t315.length co41)).setCell ⟨gb327, 3, none⟩ (.slice Ao40 t318.length co40)).setCell ⟨gb327, 4, none⟩ (.slice Ao39 t321.length co39)).setCell ⟨gb327, 5, none⟩ (.slice none 0 0)).setCell ⟨gb327, 6, none⟩ (.slice none 0 0)).setCell ⟨gb327, 7, none⟩ (.slice Ao38 y324.length co38)).setCell ⟨gb327, 8, none⟩ (.slice none 0 0)).setCell ⟨gb327, 9, none⟩ (.slice none 0 0)).setCell ⟨gb327, 10, none⟩ (.int .i64 0)) w.heap.size (fun k_ => some k_ ≠ (.slice Ao40 t318.length co40 : Value).ownBlock ∧ some k_ ≠ (.slice Ao39 t321.length co39 : Value).ownBlock ∧ some k_ ≠ (.slice Ao38 y324.length co38 : Value).ownBlock) (.slice Ao41 t315.length co41) t315) := ⟨rm_ (Kd.R_types HO317.out BK327.out (by decide)) (fun _ hk => ⟨hk.1.1, ⟨hk.1.2.1, hk.1.2.2⟩⟩)⟩
  have n1_ : Aside0 (Kd.R (Kd.int .i64) 3 (((((((((((w37.setCell ⟨gb327, 0, none⟩ (.int .i64 t313)).setCell ⟨gb327, 1, none⟩ (.int .i64 t314)).setCell ⟨gb327, 2, none⟩ (.slice Ao41 t315.length co41)).setCell ⟨gb327, 3, none⟩ (.slice Ao40 t318.length co40)).setCell ⟨gb327, 4, none⟩ (.slice Ao39 t321.length co39)).setCell ⟨gb327, 5, none⟩ (.slice none 0 0)).setCell ⟨gb327, 6, none⟩ (.slice none 0 0)).setCell ⟨gb327, 7, none⟩ (.slice Ao38 y324.length co38)).setCell ⟨gb327, 8, none⟩ (.slice none 0 0)).setCell ⟨gb327, 9, none⟩ (.slice none 0 0)).setCell ⟨gb327, 10, none⟩ (.int .i64 0)) w.heap.size (fun k_ => some k_ ≠ (.slice Ao41 t315.length co41 : Value).ownBlock ∧ some k_ ≠ (.slice Ao39 t321.length co39 : Value).ownBlock ∧ some k_ ≠ (.slice Ao38 y324.length co38 : Value).ownBlock) (.slice Ao40 t318.length co40) t318) := ⟨rm_ (Kd.R_types HO320.out BK327.out (by decide)) (fun _ hk => ⟨hk.1.1, ⟨hk.1.2.1, hk.1.2.2⟩⟩)⟩
  have n2_ : Aside0 (Kd.R (Kd.int .i64) 3 (((((((((((w37.setCell ⟨gb327, 0, none⟩ (.int .i64 t313)).setCell ⟨gb327, 1, none⟩ (.int .i64 t314)).setCell ⟨gb327, 2, none⟩ (.slice Ao41 t315.length co41)).setCell ⟨gb327, 3, none⟩ (.slice Ao40 t318.length co40)).setCell ⟨gb327, 4, none⟩ (.slice Ao39 t321.length co39)).setCell ⟨gb327, 5, none⟩ (.slice none 0 0)).setCell ⟨gb327, 6, none⟩ (.slice none 0 0)).setCell ⟨gb327, 7, none⟩ (.slice Ao38 y324.length co38)).setCell ⟨gb327, 8, none⟩ (.slice none 0 0)).setCell ⟨gb327, 9, none⟩ (.slice none 0 0)).setCell ⟨gb327, 10, none⟩ (.int .i64 0)) w.heap.size (fun k_ => some k_ ≠ (.slice Ao41 t315.length co41 : Value).ownBlock ∧ some k_ ≠ (.slice Ao40 t318.length co40 : Value).ownBlock ∧ some k_ ≠ (.slice Ao38 y324.length co38 : Value).ownBlock) (.slice Ao39 t321.length co39) t321) := ⟨rm_ (Kd.R_types HO323.out BK327.out (by decide)) (fun _ hk => ⟨hk.1.1, ⟨hk.1.2.1, hk.1.2.2⟩⟩)⟩
  have n3_ : Aside0 (Kd.R (Kd.int .i64) 3 (((((((((((w37.setCell ⟨gb327, 0, none⟩ (.int .i64 t313)).setCell ⟨gb327, 1, none⟩ (.int .i64 t314)).setCell ⟨gb327, 2, none⟩ (.slice Ao41 t315.length co41)).setCell ⟨gb327, 3, none⟩ (.slice Ao40 t318.length co40)).setCell ⟨gb327, 4, none⟩ (.slice Ao39 t321.length co39)).setCell ⟨gb327, 5, none⟩ (.slice none 0 0)).setCell ⟨gb327, 6, none⟩ (.slice none 0 0)).setCell ⟨gb327, 7, none⟩ (.slice Ao38 y324.length co38)).setCell ⟨gb327, 8, none⟩ (.slice none 0 0)).setCell ⟨gb327, 9, none⟩ (.slice none 0 0)).setCell ⟨gb327, 10, none⟩ (.int .i64 0)) w.heap.size (fun k_ => some k_ ≠ (.slice Ao41 t315.length co41 : Value).ownBlock ∧ some k_ ≠ (.slice Ao40 t318.length co40 : Value).ownBlock ∧ some k_ ≠ (.slice Ao39 t321.length co39 : Value).ownBlock) (.slice Ao38 y324.length co38) y324) := ⟨rm_ (Kd.R_types HO326.out BK327.out (by decide)) (fun _ hk => ⟨hk.1.1, ⟨hk.1.2.1, hk.1.2.2⟩⟩)⟩
  have n4_ : Aside0 ((((((((((((w37.setCell ⟨gb327, 0, none⟩ (.int .i64 t313)).setCell ⟨gb327, 1, none⟩ (.int .i64 t314)).setCell ⟨gb327, 2, none⟩ (.slice Ao41 t315.length co41)).setCell ⟨gb327, 3, none⟩ (.slice Ao40 t318.length co40)).setCell ⟨gb327, 4, none⟩ (.slice Ao39 t321.length co39)).setCell ⟨gb327, 5, none⟩ (.slice none 0 0)).setCell ⟨gb327, 6, none⟩ (.slice none 0 0)).setCell ⟨gb327, 7, none⟩ (.slice Ao38 y324.length co38)).setCell ⟨gb327, 8, none⟩ (.slice none 0 0)).setCell ⟨gb327, 9, none⟩ (.slice none 0 0)).setCell ⟨gb327, 10, none⟩ (.int .i64 0)).heap[gb308]? = some (.cells #[.int .i64 a0_0, .int .i64 a0_1, .slice A0_2 l0_2.length c0_2] 28 (0, 0))) := ⟨by (with_reducible repeat (first | refine blk_drewN ?_ _ | refine blk_drew ?_ | refine blk_alloc ?_ _)); refine blk_far ?_ NB308_327.out _; (with_reducible repeat (first | refine blk_drewN ?_ _ | refine blk_drew ?_ | refine blk_alloc ?_ _)); refine blk_far ?_ NB308_327.out _; (with_reducible repeat (first | refine blk_drewN ?_ _ | refine blk_drew ?_ | refine blk_alloc ?_ _)); refine blk_far ?_ NB308_327.out _; (with_reducible repeat (first | refine blk_drewN ?_ _ | refine blk_drew ?_ | refine blk_alloc ?_ _)); refine blk_far ?_ NB308_327.out _; (with_reducible repeat (first | refine blk_drewN ?_ _ | refine blk_drew ?_ | refine blk_alloc ?_ _)); refine blk_far ?_ NB308_327.out _; (with_reducible repeat (first | refine blk_drewN ?_ _ | refine blk_drew ?_ | refine blk_alloc ?_ _)); refine blk_far ?_ NB308_327.out _; (with_reducible repeat (first | refine blk_drewN ?_ _ | refine blk_drew ?_ | refine blk_alloc ?_ _)); refine blk_far ?_ NB308_327.out _; (with_reducible repeat (first | refine blk_drewN ?_ _ | refine blk_drew ?_ | refine blk_alloc ?_ _)); refine blk_far ?_ NB308_327.out _; (with_reducible repeat (first | refine blk_drewN ?_ _ | refine blk_drew ?_ | refine blk_alloc ?_ _)); refine blk_far ?_ NB308_327.out _; (with_reducible repeat (first | refine blk_drewN ?_ _ | refine blk_drew ?_ | refine blk_alloc ?_ _)); refine blk_far ?_ NB308_327.out _; (with_reducible repeat (first | refine blk_drewN ?_ _ | refine blk_drew ?_ | refine blk_alloc ?_ _)); refine blk_far ?_ NB308_327.out _; (with_reducible repeat (first | refine blk_drewN ?_ _ | refine blk_drew ?_ | refine blk_alloc ?_ _)); exact BK308.out⟩
  have n5_ : Aside0 ((((((((((((w37.setCell ⟨gb327, 0, none⟩ (.int .i64 t313)).setCell ⟨gb327, 1, none⟩ (.int .i64 t314)).setCell ⟨gb327, 2, none⟩ (.slice Ao41 t315.length co41)).setCell ⟨gb327, 3, none⟩ (.slice Ao40 t318.length co40)).setCell ⟨gb327, 4, none⟩ (.slice Ao39 t321.length co39)).setCell ⟨gb327, 5, none⟩ (.slice none 0 0)).setCell ⟨gb327, 6, none⟩ (.slice none 0 0)).setCell ⟨gb327, 7, none⟩ (.slice Ao38 y324.length co38)).setCell ⟨gb327, 8, none⟩ (.slice none 0 0)).setCell ⟨gb327, 9, none⟩ (.slice none 0 0)).setCell ⟨gb327, 10, none⟩ (.int .i64 0)).heap[gb309]? = some (.cells #[.slice A1_0 l1_0.length c1_0, .slice A1_1 l1_1.length c1_1] 32 (0, 0))) := ⟨by (with_reducible repeat (first | refine blk_drewN ?_ _ | refine blk_drew ?_ | refine blk_alloc ?_ _)); refine blk_far ?_ NB309_327.out _; (with_reducible repeat (first | refine blk_drewN ?_ _ | refine blk_drew ?_ | refine blk_alloc ?_ _)); refine blk_far ?_ NB309_327.out _; (with_reducible repeat (first | refine blk_drewN ?_ _ | refine blk_drew ?_ | refine blk_alloc ?_ _)); refine blk_far ?_ NB309_327.out _; (with_reducible repeat (first | refine blk_drewN ?_ _ | refine blk_drew ?_ | refine blk_alloc ?_ _)); refine blk_far ?_ NB309_327.out _; (with_reducible repeat (first | refine blk_drewN ?_ _ | refine blk_drew ?_ | refine blk_alloc ?_ _)); refine blk_far ?_ NB309_327.out _; (with_reducible repeat (first | refine blk_drewN ?_ _ | refine blk_drew ?_ | refine blk_alloc ?_ _)); refine blk_far ?_ NB309_327.out _; (with_reducible repeat (first | refine blk_drewN ?_ _ | refine blk_drew ?_ | refine blk_alloc ?_ _)); refine blk_far ?_ NB309_327.out _; (with_reducible repeat (first | refine blk_drewN ?_ _ | refine blk_drew ?_ | refine blk_alloc ?_ _)); refine blk_far ?_ NB309_327.out _; (with_reducible repeat (first | refine blk_drewN ?_ _ | refine blk_drew ?_ | refine blk_alloc ?_ _)); refine blk_far ?_ NB309_327.out _; (with_reducible repeat (first | refine blk_drewN ?_ _ | refine blk_drew ?_ | refine blk_alloc ?_ _)); refine blk_far ?_ NB309_327.out _; (with_reducible repeat (first | refine blk_drewN ?_ _ | refine blk_drew ?_ | refine blk_alloc ?_ _)); refine blk_far ?_ NB309_327.out _; (with_reducible repeat (first | refine blk_drewN ?_ _ | refine blk_drew ?_ | refine blk_alloc ?_ _)); exact BK309.out⟩
  have n6_ : Aside0 ((((((((((((w37.setCell ⟨gb327, 0, none⟩ (.int .i64 t313)).setCell ⟨gb327, 1, none⟩ (.int .i64 t314)).setCell ⟨gb327, 2, none⟩ (.slice Ao41 t315.length co41)).setCell ⟨gb327, 3, none⟩ (.slice Ao40 t318.length co40)).setCell ⟨gb327, 4, none⟩ (.slice Ao39 t321.length co39)).setCell ⟨gb327, 5, none⟩ (.slice none 0 0)).setCell ⟨gb327, 6, none⟩ (.slice none 0 0)).setCell ⟨gb327, 7, none⟩ (.slice Ao38 y324.length co38)).setCell ⟨gb327, 8, none⟩ (.slice none 0 0)).setCell ⟨gb327, 9, none⟩ (.slice none 0 0)).setCell ⟨gb327, 10, none⟩ (.int .i64 0)).heap[gb310]? = some (.cells #[.int .i64 0, .int .i64 0, .slice none 0 0, .slice none 0 0, .slice none 0 0, .slice none 0 0, .slice none 0 0, .slice none 0 0, .slice none 0 0, .slice none 0 0, .int .i64 0] 38 (0, 0))) := ⟨by (with_reducible repeat (first | refine blk_drewN ?_ _ | refine blk_drew ?_ | refine blk_alloc ?_ _)); refine blk_far ?_ NB310_327.out _; (with_reducible repeat (first | refine blk_drewN ?_ _ | refine blk_drew ?_ | refine blk_alloc ?_ _)); refine blk_far ?_ NB310_327.out _; (with_reducible repeat (first | refine blk_drewN ?_ _ | refine blk_drew ?_ | refine blk_alloc ?_ _)); refine blk_far ?_ NB310_327.out _; (with_reducible repeat (first | refine blk_drewN ?_ _ | refine blk_drew ?_ | refine blk_alloc ?_ _)); refine blk_far ?_ NB310_327.out _; (with_reducible repeat (first | refine blk_drewN ?_ _ | refine blk_drew ?_ | refine blk_alloc ?_ _)); refine blk_far ?_ NB310_327.out _; (with_reducible repeat (first | refine blk_drewN ?_ _ | refine blk_drew ?_ | refine blk_alloc ?_ _)); refine blk_far ?_ NB310_327.out _; (with_reducible repeat (first | refine blk_drewN ?_ _ | refine blk_drew ?_ | refine blk_alloc ?_ _)); refine blk_far ?_ NB310_327.out _; (with_reducible repeat (first | refine blk_drewN ?_ _ | refine blk_drew ?_ | refine blk_alloc ?_ _)); refine blk_far ?_ NB310_327.out _; (with_reducible repeat (first | refine blk_drewN ?_ _ | refine blk_drew ?_ | refine blk_alloc ?_ _)); refine blk_far ?_ NB310_327.out _; (with_reducible repeat (first | refine blk_drewN ?_ _ | refine blk_drew ?_ | refine blk_alloc ?_ _)); refine blk_far ?_ NB310_327.out _; (with_reducible repeat (first | refine blk_drewN ?_ _ | refine blk_drew ?_ | refine blk_alloc ?_ _)); refine blk_far ?_ NB310_327.out _; (with_reducible repeat (first | refine blk_drewN ?_ _ | refine blk_drew ?_ | refine blk_alloc ?_ _)); exact BK310.out⟩
  have n7_ : Aside0 ((((((((((((w37.setCell ⟨gb327, 0, none⟩ (.int .i64 t313)).setCell ⟨gb327, 1, none⟩ (.int .i64 t314)).setCell ⟨gb327, 2, none⟩ (.slice Ao41 t315.length co41)).setCell ⟨gb327, 3, none⟩ (.slice Ao40 t318.length co40)).setCell ⟨gb327, 4, none⟩ (.slice Ao39 t321.length co39)).setCell ⟨gb327, 5, none⟩ (.slice none 0 0)).setCell ⟨gb327, 6, none⟩ (.slice none 0 0)).setCell ⟨gb327, 7, none⟩ (.slice Ao38 y324.length co38)).setCell ⟨gb327, 8, none⟩ (.slice none 0 0)).setCell ⟨gb327, 9, none⟩ (.slice none 0 0)).setCell ⟨gb327, 10, none⟩ (.int .i64 0)).heap[gb327]? = some (.cells #[.int .i64 t313, .int .i64 t314, .slice Ao41 t315.length co41, .slice Ao40 t318.length co40, .slice Ao39 t321.length co39, .slice none 0 0, .slice none 0 0, .slice Ao38 y324.length co38, .slice none 0 0, .slice none 0 0, .int .i64 0] 38 (0, 0))) := ⟨by (with_reducible repeat (first | refine blk_drewN ?_ _ | refine blk_drew ?_ | refine blk_alloc ?_ _)); refine blk_put (cs := #[.int .i64 t313, .int .i64 t314, .slice Ao41 t315.length co41, .slice Ao40 t318.length co40, .slice Ao39 t321.length co39, .slice none 0 0, .slice none 0 0, .slice Ao38 y324.length co38, .slice none 0 0, .slice none 0 0, .int .i64 0]) ?_ 10 _ rfl; (with_reducible repeat (first | refine blk_drewN ?_ _ | refine blk_drew ?_ | refine blk_alloc ?_ _)); refine blk_put (cs := #[.int .i64 t313, .int .i64 t314, .slice Ao41 t315.length co41, .slice Ao40 t318.length co40, .slice Ao39 t321.length co39, .slice none 0 0, .slice none 0 0, .slice Ao38 y324.length co38, .slice none 0 0, .slice none 0 0, .int .i64 0]) ?_ 9 _ rfl; (with_reducible repeat (first | refine blk_drewN ?_ _ | refine blk_drew ?_ | refine blk_alloc ?_ _)); refine blk_put (cs := #[.int .i64 t313, .int .i64 t314, .slice Ao41 t315.length co41, .slice Ao40 t318.length co40, .slice Ao39 t321.length co39, .slice none 0 0, .slice none 0 0, .slice Ao38 y324.length co38, .slice none 0 0, .slice none 0 0, .int .i64 0]) ?_ 8 _ rfl; (with_reducible repeat (first | refine blk_drewN ?_ _ | refine blk_drew ?_ | refine blk_alloc ?_ _)); refine blk_put (cs := #[.int .i64 t313, .int .i64 t314, .slice Ao41 t315.length co41, .slice Ao40 t318.length co40, .slice Ao39 t321.length co39, .slice none 0 0, .slice none 0 0, .slice none 0 0, .slice none 0 0, .slice none 0 0, .int .i64 0]) ?_ 7 _ rfl; (with_reducible repeat (first | refine blk_drewN ?_ _ | refine blk_drew ?_ | refine blk_alloc ?_ _)); refine blk_put (cs := #[.int .i64 t313, .int .i64 t314, .slice Ao41 t315.length co41, .slice Ao40 t318.length co40, .slice Ao39 t321.length co39, .slice none 0 0, .slice none 0 0, .slice none 0 0, .slice none 0 0, .slice none 0 0, .int .i64 0]) ?_ 6 _ rfl; (with_reducible repeat (first | refine blk_drewN ?_ _ | refine blk_drew ?_ | refine blk_alloc ?_ _)); refine blk_put (cs := #[.int .i64 t313, .int .i64 t314, .slice Ao41 t315.length co41, .slice Ao40 t318.length co40, .slice Ao39 t321.length co39, .slice none 0 0, .slice none 0 0, .slice none 0 0, .slice none 0 0, .slice none 0 0, .int .i64 0]) ?_ 5 _ rfl; (with_reducible repeat (first | refine blk_drewN ?_ _ | refine blk_drew ?_ | refine blk_alloc ?_ _)); refine blk_put (cs := #[.int .i64 t313, .int .i64 t314, .slice Ao41 t315.length co41, .slice Ao40 t318.length co40, .slice none 0 0, .slice none 0 0, .slice none 0 0, .slice none 0 0, .slice none 0 0, .slice none 0 0, .int .i64 0]) ?_ 4 _ rfl; (with_reducible repeat (first | refine blk_drewN ?_ _ | refine blk_drew ?_ | refine blk_alloc ?_ _)); refine blk_put (cs := #[.int .i64 t313, .int .i64 t314, .slice Ao41 t315.length co41, .slice none 0 0, .slice none 0 0, .slice none 0 0, .slice none 0 0, .slice none 0 0, .slice none 0 0, .slice none 0 0, .int .i64 0]) ?_ 3 _ rfl; (with_reducible repeat (first | refine blk_drewN ?_ _ | refine blk_drew ?_ | refine blk_alloc ?_ _)); refine blk_put (cs := #[.int .i64 t313, .int .i64 t314, .slice none 0 0, .slice none 0 0, .slice none 0 0, .slice none 0 0, .slice none 0 0, .slice none 0 0, .slice none 0 0, .slice none 0 0, .int .i64 0]) ?_ 2 _ rfl; (with_reducible repeat (first | refine blk_drewN ?_ _ | refine blk_drew ?_ | refine blk_alloc ?_ _)); refine blk_put (cs := #[.int .i64 t313, .int .i64 0, .slice none 0 0, .slice none 0 0, .slice none 0 0, .slice none 0 0, .slice none 0 0, .slice none 0 0, .slice none 0 0, .slice none 0 0, .int .i64 0]) ?_ 1 _ rfl; (with_reducible repeat (first | refine blk_drewN ?_ _ | refine blk_drew ?_ | refine blk_alloc ?_ _)); refine blk_put (cs := #[.int .i64 0, .int .i64 0, .slice none 0 0, .slice none 0 0, .slice none 0 0, .slice none 0 0, .slice none 0 0, .slice none 0 0, .slice none 0 0, .slice none 0 0, .int .i64 0]) ?_ 0 _ rfl; (with_reducible repeat (first | refine blk_drewN ?_ _ | refine blk_drew ?_ | refine blk_alloc ?_ _)); exact BK327.out⟩
  have n8_ : Aside0 (Below w.heap.size w (((((((((((w37.setCell ⟨gb327, 0, none⟩ (.int .i64 t313)).setCell ⟨gb327, 1, none⟩ (.int .i64 t314)).setCell ⟨gb327, 2, none⟩ (.slice Ao41 t315.length co41)).setCell ⟨gb327, 3, none⟩ (.slice Ao40 t318.length co40)).setCell ⟨gb327, 4, none⟩ (.slice Ao39 t321.length co39)).setCell ⟨gb327, 5, none⟩ (.slice none 0 0)).setCell ⟨gb327, 6, none⟩ (.slice none 0 0)).setCell ⟨gb327, 7, none⟩ (.slice Ao38 y324.length co38)).setCell ⟨gb327, 8, none⟩ (.slice none 0 0)).setCell ⟨gb327, 9, none⟩ (.slice none 0 0)).setCell ⟨gb327, 10, none⟩ (.int .i64 0))) := ⟨bb_ HB.out⟩
  (try clear HO317)
  (try clear HO320)
  (try clear HO323)
  (try clear HO326)
  (try clear BK308)
  (try clear BK309)
  (try clear BK310)
  (try clear BK327)
  (try clear HB)
  generalize (((((((((((w37.setCell ⟨gb327, 0, none⟩ (.int .i64 t313)).setCell ⟨gb327, 1, none⟩ (.int .i64 t314)).setCell ⟨gb327, 2, none⟩ (.slice Ao41 t315.length co41)).setCell ⟨gb327, 3, none⟩ (.slice Ao40 t318.length co40)).setCell ⟨gb327, 4, none⟩ (.slice Ao39 t321.length co39)).setCell ⟨gb327, 5, none⟩ (.slice none 0 0)).setCell ⟨gb327, 6, none⟩ (.slice none 0 0)).setCell ⟨gb327, 7, none⟩ (.slice Ao38 y324.length co38)).setCell ⟨gb327, 8, none⟩ (.slice none 0 0)).setCell ⟨gb327, 9, none⟩ (.slice none 0 0)).setCell ⟨gb327, 10, none⟩ (.int .i64 0)) = w53 at n0_ n1_ n2_ n3_ n4_ n5_ n6_ n7_ n8_ ⊢
  have HO317 := n0_
  have HO320 := n1_
  have HO323 := n2_
  have HO326 := n3_
  have BK308 := n4_
  have BK309 := n5_
  have BK310 := n6_
  have BK327 := n7_
  have HB := n8_
  clear n0_ n1_ n2_ n3_ n4_ n5_ n6_ n7_ n8_
  replace HO317 := Aside0.mk (Kd.R_drew HO317.out)
  replace HO320 := Aside0.mk (Kd.R_drew HO320.out)
  replace HO323 := Aside0.mk (Kd.R_drew HO323.out)
  replace HO326 := Aside0.mk (Kd.R_drew HO326.out)
  replace BK308 := Aside0.mk (blk_drew BK308.out)
  replace BK309 := Aside0.mk (blk_drew BK309.out)
  replace BK310 := Aside0.mk (blk_drew BK310.out)
  replace BK327 := Aside0.mk (blk_drew BK327.out)
  replace HB := Aside0.mk (below_drew1 HB.out)
  refine start_ (n := 13) (S := fun w' => True) (ds := []) #[false, false, false, false, false, false, false, false, false, false, false, false, false] (by kernel_rfl) rfl rfl trivial (fun hHeld => ?_); refine with_tabW impl_NetNew.tab5 impl_NetNew.bits5 (fun HT_ HW_ => ?_)
  generalize w53.drew = w54 at HO317 HO320 HO323 HO326 BK308 BK309 BK310 BK327 HB hHeld ⊢
  refine pu_ 0 24 (bt_ 13 1) HT_ ?_
  refine pu_ 1 25 (bt_ 13 3) HT_ ?_
  refine pu_ 3 27 (bt_ 13 11) HT_ ?_
  refine pu_ 5 29 (bt_ 13 43) HT_ ?_
  refine join_ (σ := Value × Value × Value) 2 #[true, true, true, true, true, true, true, true, true, true, true, false, false] (fun s_ => [(26, s_.1), (28, s_.2.1), (30, s_.2.2), (31, .pointer (some ⟨gb327, 5, none⟩)), (32, .pointer (some ⟨gb327, 8, none⟩))]) (fun s_ w' => (Kd.R (Kd.int .i64) 3 w' w.heap.size (fun k_ => some k_ ≠ (.slice Ao40 t318.length co40 : Value).ownBlock ∧ some k_ ≠ (.slice Ao39 t321.length co39 : Value).ownBlock ∧ some k_ ≠ (.slice Ao38 y324.length co38 : Value).ownBlock) (.slice Ao41 t315.length co41) t315) ∧ (Kd.R (Kd.int .i64) 3 w' w.heap.size (fun k_ => some k_ ≠ (.slice Ao41 t315.length co41 : Value).ownBlock ∧ some k_ ≠ (.slice Ao39 t321.length co39 : Value).ownBlock ∧ some k_ ≠ (.slice Ao38 y324.length co38 : Value).ownBlock) (.slice Ao40 t318.length co40) t318) ∧ (Kd.R (Kd.int .i64) 3 w' w.heap.size (fun k_ => some k_ ≠ (.slice Ao41 t315.length co41 : Value).ownBlock ∧ some k_ ≠ (.slice Ao40 t318.length co40 : Value).ownBlock ∧ some k_ ≠ (.slice Ao38 y324.length co38 : Value).ownBlock) (.slice Ao39 t321.length co39) t321) ∧ (Kd.R (Kd.int .i64) 3 w' w.heap.size (fun k_ => some k_ ≠ (.slice Ao41 t315.length co41 : Value).ownBlock ∧ some k_ ≠ (.slice Ao40 t318.length co40 : Value).ownBlock ∧ some k_ ≠ (.slice Ao39 t321.length co39 : Value).ownBlock) (.slice Ao38 y324.length co38) y324) ∧ (Kd.S (Kd.slice 79 k79) 61 w' w.heap.size (fun k_ => some k_ ≠ (s_.2.1 : Value).ownBlock ∧ some k_ ≠ (s_.2.2 : Value).ownBlock) s_.1 y328) ∧ (Kd.S (Kd.slice 79 k79) 61 w' w.heap.size (fun k_ => some k_ ≠ (s_.1 : Value).ownBlock ∧ some k_ ≠ (s_.2.2 : Value).ownBlock) s_.2.1 y331) ∧ (Kd.S (Kd.slice 79 k79) 61 w' w.heap.size (fun k_ => some k_ ≠ (s_.1 : Value).ownBlock ∧ some k_ ≠ (s_.2.1 : Value).ownBlock) s_.2.2 y334) ∧ (w'.heap[gb308]? = some (.cells #[.int .i64 a0_0, .int .i64 a0_1, .slice A0_2 l0_2.length c0_2] 28 (0, 0))) ∧ (w'.heap[gb309]? = some (.cells #[.slice A1_0 l1_0.length c1_0, .slice A1_1 l1_1.length c1_1] 32 (0, 0))) ∧ (w'.heap[gb310]? = some (.cells #[.int .i64 0, .int .i64 0, .slice none 0 0, .slice none 0 0, .slice none 0 0, .slice none 0 0, .slice none 0 0, .slice none 0 0, .slice none 0 0, .slice none 0 0, .int .i64 0] 38 (0, 0))) ∧ (w'.heap[gb327]? = some (.cells #[.int .i64 t313, .int .i64 t314, .slice Ao41 t315.length co41, .slice Ao40 t318.length co40, .slice Ao39 t321.length co39, s_.1, .slice none 0 0, .slice Ao38 y324.length co38, s_.2.1, .slice none 0 0, .int .i64 0] 38 (0, 0))) ∧ (Below w.heap.size w w')) ?_ ?_
  rotate_left
  ·intro hJ2_4_6_8_10
   refine join_ (σ := Value × Value × Value) 3 #[true, true, true, true, true, true, true, true, true, true, false, false, false] (fun s_ => [(26, s_.1), (28, s_.2.1), (30, s_.2.2), (31, .pointer (some ⟨gb327, 5, none⟩)), (32, .pointer (some ⟨gb327, 8, none⟩))]) (fun s_ w' => (Kd.R (Kd.int .i64) 3 w' w.heap.size (fun k_ => some k_ ≠ (.slice Ao40 t318.length co40 : Value).ownBlock ∧ some k_ ≠ (.slice Ao39 t321.length co39 : Value).ownBlock ∧ some k_ ≠ (.slice Ao38 y324.length co38 : Value).ownBlock) (.slice Ao41 t315.length co41) t315) ∧ (Kd.R (Kd.int .i64) 3 w' w.heap.size (fun k_ => some k_ ≠ (.slice Ao41 t315.length co41 : Value).ownBlock ∧ some k_ ≠ (.slice Ao39 t321.length co39 : Value).ownBlock ∧ some k_ ≠ (.slice Ao38 y324.length co38 : Value).ownBlock) (.slice Ao40 t318.length co40) t318) ∧ (Kd.R (Kd.int .i64) 3 w' w.heap.size (fun k_ => some k_ ≠ (.slice Ao41 t315.length co41 : Value).ownBlock ∧ some k_ ≠ (.slice Ao40 t318.length co40 : Value).ownBlock ∧ some k_ ≠ (.slice Ao38 y324.length co38 : Value).ownBlock) (.slice Ao39 t321.length co39) t321) ∧ (Kd.R (Kd.int .i64) 3 w' w.heap.size (fun k_ => some k_ ≠ (.slice Ao41 t315.length co41 : Value).ownBlock ∧ some k_ ≠ (.slice Ao40 t318.length co40 : Value).ownBlock ∧ some k_ ≠ (.slice Ao39 t321.length co39 : Value).ownBlock) (.slice Ao38 y324.length co38) y324) ∧ (Kd.S (Kd.slice 79 k79) 61 w' w.heap.size (fun k_ => some k_ ≠ (s_.2.1 : Value).ownBlock ∧ some k_ ≠ (s_.2.2 : Value).ownBlock) s_.1 y328) ∧ (Kd.S (Kd.slice 79 k79) 61 w' w.heap.size (fun k_ => some k_ ≠ (s_.1 : Value).ownBlock ∧ some k_ ≠ (s_.2.2 : Value).ownBlock) s_.2.1 y331) ∧ (Kd.S (Kd.slice 79 k79) 61 w' w.heap.size (fun k_ => some k_ ≠ (s_.1 : Value).ownBlock ∧ some k_ ≠ (s_.2.1 : Value).ownBlock) s_.2.2 y334) ∧ (w'.heap[gb308]? = some (.cells #[.int .i64 a0_0, .int .i64 a0_1, .slice A0_2 l0_2.length c0_2] 28 (0, 0))) ∧ (w'.heap[gb309]? = some (.cells #[.slice A1_0 l1_0.length c1_0, .slice A1_1 l1_1.length c1_1] 32 (0, 0))) ∧ (w'.heap[gb310]? = some (.cells #[.int .i64 0, .int .i64 0, .slice none 0 0, .slice none 0 0, .slice none 0 0, .slice none 0 0, .slice none 0 0, .slice none 0 0, .slice none 0 0, .slice none 0 0, .int .i64 0] 38 (0, 0))) ∧ (w'.heap[gb327]? = some (.cells #[.int .i64 t313, .int .i64 t314, .slice Ao41 t315.length co41, .slice Ao40 t318.length co40, .slice Ao39 t321.length co39, s_.1, .slice none 0 0, .slice Ao38 y324.length co38, .slice none 0 0, .slice none 0 0, .int .i64 0] 38 (0, 0))) ∧ (Below w.heap.size w w')) ?_ ?_
   rotate_left
   ·intro hJ2_4_6_8
    refine join_ (σ := Value × Value) 3 #[true, true, true, true, true, true, false, true, true, true, true, false, false] (fun s_ => [(26, s_.1), (28, s_.2), (31, .pointer (some ⟨gb327, 5, none⟩)), (32, .pointer (some ⟨gb327, 8, none⟩))]) (fun s_ w' => (Kd.R (Kd.int .i64) 3 w' w.heap.size (fun k_ => some k_ ≠ (.slice Ao40 t318.length co40 : Value).ownBlock ∧ some k_ ≠ (.slice Ao39 t321.length co39 : Value).ownBlock ∧ some k_ ≠ (.slice Ao38 y324.length co38 : Value).ownBlock) (.slice Ao41 t315.length co41) t315) ∧ (Kd.R (Kd.int .i64) 3 w' w.heap.size (fun k_ => some k_ ≠ (.slice Ao41 t315.length co41 : Value).ownBlock ∧ some k_ ≠ (.slice Ao39 t321.length co39 : Value).ownBlock ∧ some k_ ≠ (.slice Ao38 y324.length co38 : Value).ownBlock) (.slice Ao40 t318.length co40) t318) ∧ (Kd.R (Kd.int .i64) 3 w' w.heap.size (fun k_ => some k_ ≠ (.slice Ao41 t315.length co41 : Value).ownBlock ∧ some k_ ≠ (.slice Ao40 t318.length co40 : Value).ownBlock ∧ some k_ ≠ (.slice Ao38 y324.length co38 : Value).ownBlock) (.slice Ao39 t321.length co39) t321) ∧ (Kd.R (Kd.int .i64) 3 w' w.heap.size (fun k_ => some k_ ≠ (.slice Ao41 t315.length co41 : Value).ownBlock ∧ some k_ ≠ (.slice Ao40 t318.length co40 : Value).ownBlock ∧ some k_ ≠ (.slice Ao39 t321.length co39 : Value).ownBlock) (.slice Ao38 y324.length co38) y324) ∧ (Kd.S (Kd.slice 79 k79) 61 w' w.heap.size (fun k_ => some k_ ≠ (s_.2 : Value).ownBlock) s_.1 y328) ∧ (Kd.S (Kd.slice 79 k79) 61 w' w.heap.size (fun k_ => some k_ ≠ (s_.1 : Value).ownBlock) s_.2 y331) ∧ (w'.heap[gb308]? = some (.cells #[.int .i64 a0_0, .int .i64 a0_1, .slice A0_2 l0_2.length c0_2] 28 (0, 0))) ∧ (w'.heap[gb309]? = some (.cells #[.slice A1_0 l1_0.length c1_0, .slice A1_1 l1_1.length c1_1] 32 (0, 0))) ∧ (w'.heap[gb310]? = some (.cells #[.int .i64 0, .int .i64 0, .slice none 0 0, .slice none 0 0, .slice none 0 0, .slice none 0 0, .slice none 0 0, .slice none 0 0, .slice none 0 0, .slice none 0 0, .int .i64 0] 38 (0, 0))) ∧ (w'.heap[gb327]? = some (.cells #[.int .i64 t313, .int .i64 t314, .slice Ao41 t315.length co41, .slice Ao40 t318.length co40, .slice Ao39 t321.length co39, s_.1, .slice none 0 0, .slice Ao38 y324.length co38, s_.2, .slice none 0 0, .int .i64 0] 38 (0, 0))) ∧ (Below w.heap.size w w')) ?_ ?_
    rotate_left
    ·intro hJ2_4_8_10
     refine join_ (σ := Value × Value × Value) 5 #[true, true, true, true, true, true, true, true, false, false, false, false, false] (fun s_ => [(26, s_.1), (28, s_.2.1), (30, s_.2.2), (31, .pointer (some ⟨gb327, 5, none⟩))]) (fun s_ w' => (Kd.R (Kd.int .i64) 3 w' w.heap.size (fun k_ => some k_ ≠ (.slice Ao40 t318.length co40 : Value).ownBlock ∧ some k_ ≠ (.slice Ao39 t321.length co39 : Value).ownBlock ∧ some k_ ≠ (.slice Ao38 y324.length co38 : Value).ownBlock) (.slice Ao41 t315.length co41) t315) ∧ (Kd.R (Kd.int .i64) 3 w' w.heap.size (fun k_ => some k_ ≠ (.slice Ao41 t315.length co41 : Value).ownBlock ∧ some k_ ≠ (.slice Ao39 t321.length co39 : Value).ownBlock ∧ some k_ ≠ (.slice Ao38 y324.length co38 : Value).ownBlock) (.slice Ao40 t318.length co40) t318) ∧ (Kd.R (Kd.int .i64) 3 w' w.heap.size (fun k_ => some k_ ≠ (.slice Ao41 t315.length co41 : Value).ownBlock ∧ some k_ ≠ (.slice Ao40 t318.length co40 : Value).ownBlock ∧ some k_ ≠ (.slice Ao38 y324.length co38 : Value).ownBlock) (.slice Ao39 t321.length co39) t321) ∧ (Kd.R (Kd.int .i64) 3 w' w.heap.size (fun k_ => some k_ ≠ (.slice Ao41 t315.length co41 : Value).ownBlock ∧ some k_ ≠ (.slice Ao40 t318.length co40 : Value).ownBlock ∧ some k_ ≠ (.slice Ao39 t321.length co39 : Value).ownBlock) (.slice Ao38 y324.length co38) y324) ∧ (Kd.S (Kd.slice 79 k79) 61 w' w.heap.size (fun k_ => some k_ ≠ (s_.2.1 : Value).ownBlock ∧ some k_ ≠ (s_.2.2 : Value).ownBlock) s_.1 y328) ∧ (Kd.S (Kd.slice 79 k79) 61 w' w.heap.size (fun k_ => some k_ ≠ (s_.1 : Value).ownBlock ∧ some k_ ≠ (s_.2.2 : Value).ownBlock) s_.2.1 y331) ∧ (Kd.S (Kd.slice 79 k79) 61 w' w.heap.size (fun k_ => some k_ ≠ (s_.1 : Value).ownBlock ∧ some k_ ≠ (s_.2.1 : Value).ownBlock) s_.2.2 y334) ∧ (w'.heap[gb308]? = some (.cells #[.int .i64 a0_0, .int .i64 a0_1, .slice A0_2 l0_2.length c0_2] 28 (0, 0))) ∧ (w'.heap[gb309]? = some (.cells #[.slice A1_0 l1_0.length c1_0, .slice A1_1 l1_1.length c1_1] 32 (0, 0))) ∧ (w'.heap[gb310]? = some (.cells #[.int .i64 0, .int .i64 0, .slice none 0 0, .slice none 0 0, .slice none 0 0, .slice none 0 0, .slice none 0 0, .slice none 0 0, .slice none 0 0, .slice none 0 0, .int .i64 0] 38 (0, 0))) ∧ (w'.heap[gb327]? = some (.cells #[.int .i64 t313, .int .i64 t314, .slice Ao41 t315.length co41, .slice Ao40 t318.length co40, .slice Ao39 t321.length co39, .slice none 0 0, .slice none 0 0, .slice Ao38 y324.length co38, .slice none 0 0, .slice none 0 0, .int .i64 0] 38 (0, 0))) ∧ (Below w.heap.size w w')) ?_ ?_
     rotate_left
     ·intro hJ2_4_6
      refine join_ (σ := Value × Value) 4 #[true, true, true, true, true, true, false, true, true, true, false, false, false] (fun s_ => [(26, s_.1), (28, s_.2), (31, .pointer (some ⟨gb327, 5, none⟩)), (32, .pointer (some ⟨gb327, 8, none⟩))]) (fun s_ w' => (Kd.R (Kd.int .i64) 3 w' w.heap.size (fun k_ => some k_ ≠ (.slice Ao40 t318.length co40 : Value).ownBlock ∧ some k_ ≠ (.slice Ao39 t321.length co39 : Value).ownBlock ∧ some k_ ≠ (.slice Ao38 y324.length co38 : Value).ownBlock) (.slice Ao41 t315.length co41) t315) ∧ (Kd.R (Kd.int .i64) 3 w' w.heap.size (fun k_ => some k_ ≠ (.slice Ao41 t315.length co41 : Value).ownBlock ∧ some k_ ≠ (.slice Ao39 t321.length co39 : Value).ownBlock ∧ some k_ ≠ (.slice Ao38 y324.length co38 : Value).ownBlock) (.slice Ao40 t318.length co40) t318) ∧ (Kd.R (Kd.int .i64) 3 w' w.heap.size (fun k_ => some k_ ≠ (.slice Ao41 t315.length co41 : Value).ownBlock ∧ some k_ ≠ (.slice Ao40 t318.length co40 : Value).ownBlock ∧ some k_ ≠ (.slice Ao38 y324.length co38 : Value).ownBlock) (.slice Ao39 t321.length co39) t321) ∧ (Kd.R (Kd.int .i64) 3 w' w.heap.size (fun k_ => some k_ ≠ (.slice Ao41 t315.length co41 : Value).ownBlock ∧ some k_ ≠ (.slice Ao40 t318.length co40 : Value).ownBlock ∧ some k_ ≠ (.slice Ao39 t321.length co39 : Value).ownBlock) (.slice Ao38 y324.length co38) y324) ∧ (Kd.S (Kd.slice 79 k79) 61 w' w.heap.size (fun k_ => some k_ ≠ (s_.2 : Value).ownBlock) s_.1 y328) ∧ (Kd.S (Kd.slice 79 k79) 61 w' w.heap.size (fun k_ => some k_ ≠ (s_.1 : Value).ownBlock) s_.2 y331) ∧ (w'.heap[gb308]? = some (.cells #[.int .i64 a0_0, .int .i64 a0_1, .slice A0_2 l0_2.length c0_2] 28 (0, 0))) ∧ (w'.heap[gb309]? = some (.cells #[.slice A1_0 l1_0.length c1_0, .slice A1_1 l1_1.length c1_1] 32 (0, 0))) ∧ (w'.heap[gb310]? = some (.cells #[.int .i64 0, .int .i64 0, .slice none 0 0, .slice none 0 0, .slice none 0 0, .slice none 0 0, .slice none 0 0, .slice none 0 0, .slice none 0 0, .slice none 0 0, .int .i64 0] 38 (0, 0))) ∧ (w'.heap[gb327]? = some (.cells #[.int .i64 t313, .int .i64 t314, .slice Ao41 t315.length co41, .slice Ao40 t318.length co40, .slice Ao39 t321.length co39, s_.1, .slice none 0 0, .slice Ao38 y324.length co38, .slice none 0 0, .slice none 0 0, .int .i64 0] 38 (0, 0))) ∧ (Below w.heap.size w w')) ?_ ?_
      rotate_left
      ·intro hJ2_4_8
       refine join_ (σ := Value × Value) 5 #[true, true, true, true, false, true, true, true, true, false, false, false, false] (fun s_ => [(26, s_.1), (30, s_.2), (31, .pointer (some ⟨gb327, 5, none⟩))]) (fun s_ w' => (Kd.R (Kd.int .i64) 3 w' w.heap.size (fun k_ => some k_ ≠ (.slice Ao40 t318.length co40 : Value).ownBlock ∧ some k_ ≠ (.slice Ao39 t321.length co39 : Value).ownBlock ∧ some k_ ≠ (.slice Ao38 y324.length co38 : Value).ownBlock) (.slice Ao41 t315.length co41) t315) ∧ (Kd.R (Kd.int .i64) 3 w' w.heap.size (fun k_ => some k_ ≠ (.slice Ao41 t315.length co41 : Value).ownBlock ∧ some k_ ≠ (.slice Ao39 t321.length co39 : Value).ownBlock ∧ some k_ ≠ (.slice Ao38 y324.length co38 : Value).ownBlock) (.slice Ao40 t318.length co40) t318) ∧ (Kd.R (Kd.int .i64) 3 w' w.heap.size (fun k_ => some k_ ≠ (.slice Ao41 t315.length co41 : Value).ownBlock ∧ some k_ ≠ (.slice Ao40 t318.length co40 : Value).ownBlock ∧ some k_ ≠ (.slice Ao38 y324.length co38 : Value).ownBlock) (.slice Ao39 t321.length co39) t321) ∧ (Kd.R (Kd.int .i64) 3 w' w.heap.size (fun k_ => some k_ ≠ (.slice Ao41 t315.length co41 : Value).ownBlock ∧ some k_ ≠ (.slice Ao40 t318.length co40 : Value).ownBlock ∧ some k_ ≠ (.slice Ao39 t321.length co39 : Value).ownBlock) (.slice Ao38 y324.length co38) y324) ∧ (Kd.S (Kd.slice 79 k79) 61 w' w.heap.size (fun k_ => some k_ ≠ (s_.2 : Value).ownBlock) s_.1 y328) ∧ (Kd.S (Kd.slice 79 k79) 61 w' w.heap.size (fun k_ => some k_ ≠ (s_.1 : Value).ownBlock) s_.2 y334) ∧ (w'.heap[gb308]? = some (.cells #[.int .i64 a0_0, .int .i64 a0_1, .slice A0_2 l0_2.length c0_2] 28 (0, 0))) ∧ (w'.heap[gb309]? = some (.cells #[.slice A1_0 l1_0.length c1_0, .slice A1_1 l1_1.length c1_1] 32 (0, 0))) ∧ (w'.heap[gb310]? = some (.cells #[.int .i64 0, .int .i64 0, .slice none 0 0, .slice none 0 0, .slice none 0 0, .slice none 0 0, .slice none 0 0, .slice none 0 0, .slice none 0 0, .slice none 0 0, .int .i64 0] 38 (0, 0))) ∧ (w'.heap[gb327]? = some (.cells #[.int .i64 t313, .int .i64 t314, .slice Ao41 t315.length co41, .slice Ao40 t318.length co40, .slice Ao39 t321.length co39, s_.1, .slice none 0 0, .slice Ao38 y324.length co38, .slice none 0 0, .slice none 0 0, .int .i64 0] 38 (0, 0))) ∧ (Below w.heap.size w w')) ?_ ?_
       rotate_left
       ·intro hJ2_6_8
        refine join_ (σ := Value × Value) 6 #[true, true, true, true, true, true, false, true, false, false, false, false, false] (fun s_ => [(26, s_.1), (28, s_.2), (31, .pointer (some ⟨gb327, 5, none⟩))]) (fun s_ w' => (Kd.R (Kd.int .i64) 3 w' w.heap.size (fun k_ => some k_ ≠ (.slice Ao40 t318.length co40 : Value).ownBlock ∧ some k_ ≠ (.slice Ao39 t321.length co39 : Value).ownBlock ∧ some k_ ≠ (.slice Ao38 y324.length co38 : Value).ownBlock) (.slice Ao41 t315.length co41) t315) ∧ (Kd.R (Kd.int .i64) 3 w' w.heap.size (fun k_ => some k_ ≠ (.slice Ao41 t315.length co41 : Value).ownBlock ∧ some k_ ≠ (.slice Ao39 t321.length co39 : Value).ownBlock ∧ some k_ ≠ (.slice Ao38 y324.length co38 : Value).ownBlock) (.slice Ao40 t318.length co40) t318) ∧ (Kd.R (Kd.int .i64) 3 w' w.heap.size (fun k_ => some k_ ≠ (.slice Ao41 t315.length co41 : Value).ownBlock ∧ some k_ ≠ (.slice Ao40 t318.length co40 : Value).ownBlock ∧ some k_ ≠ (.slice Ao38 y324.length co38 : Value).ownBlock) (.slice Ao39 t321.length co39) t321) ∧ (Kd.R (Kd.int .i64) 3 w' w.heap.size (fun k_ => some k_ ≠ (.slice Ao41 t315.length co41 : Value).ownBlock ∧ some k_ ≠ (.slice Ao40 t318.length co40 : Value).ownBlock ∧ some k_ ≠ (.slice Ao39 t321.length co39 : Value).ownBlock) (.slice Ao38 y324.length co38) y324) ∧ (Kd.S (Kd.slice 79 k79) 61 w' w.heap.size (fun k_ => some k_ ≠ (s_.2 : Value).ownBlock) s_.1 y328) ∧ (Kd.S (Kd.slice 79 k79) 61 w' w.heap.size (fun k_ => some k_ ≠ (s_.1 : Value).ownBlock) s_.2 y331) ∧ (w'.heap[gb308]? = some (.cells #[.int .i64 a0_0, .int .i64 a0_1, .slice A0_2 l0_2.length c0_2] 28 (0, 0))) ∧ (w'.heap[gb309]? = some (.cells #[.slice A1_0 l1_0.length c1_0, .slice A1_1 l1_1.length c1_1] 32 (0, 0))) ∧ (w'.heap[gb310]? = some (.cells #[.int .i64 0, .int .i64 0, .slice none 0 0, .slice none 0 0, .slice none 0 0, .slice none 0 0, .slice none 0 0, .slice none 0 0, .slice none 0 0, .slice none 0 0, .int .i64 0] 38 (0, 0))) ∧ (w'.heap[gb327]? = some (.cells #[.int .i64 t313, .int .i64 t314, .slice Ao41 t315.length co41, .slice Ao40 t318.length co40, .slice Ao39 t321.length co39, .slice none 0 0, .slice none 0 0, .slice Ao38 y324.length co38, .slice none 0 0, .slice none 0 0, .int .i64 0] 38 (0, 0))) ∧ (Below w.heap.size w w')) ?_ ?_
        rotate_left
        ·intro hJ2_4
         refine join_ (σ := Value × Value) 6 #[true, true, true, true, false, true, true, true, false, false, false, false, false] (fun s_ => [(26, s_.1), (30, s_.2), (31, .pointer (some ⟨gb327, 5, none⟩))]) (fun s_ w' => (Kd.R (Kd.int .i64) 3 w' w.heap.size (fun k_ => some k_ ≠ (.slice Ao40 t318.length co40 : Value).ownBlock ∧ some k_ ≠ (.slice Ao39 t321.length co39 : Value).ownBlock ∧ some k_ ≠ (.slice Ao38 y324.length co38 : Value).ownBlock) (.slice Ao41 t315.length co41) t315) ∧ (Kd.R (Kd.int .i64) 3 w' w.heap.size (fun k_ => some k_ ≠ (.slice Ao41 t315.length co41 : Value).ownBlock ∧ some k_ ≠ (.slice Ao39 t321.length co39 : Value).ownBlock ∧ some k_ ≠ (.slice Ao38 y324.length co38 : Value).ownBlock) (.slice Ao40 t318.length co40) t318) ∧ (Kd.R (Kd.int .i64) 3 w' w.heap.size (fun k_ => some k_ ≠ (.slice Ao41 t315.length co41 : Value).ownBlock ∧ some k_ ≠ (.slice Ao40 t318.length co40 : Value).ownBlock ∧ some k_ ≠ (.slice Ao38 y324.length co38 : Value).ownBlock) (.slice Ao39 t321.length co39) t321) ∧ (Kd.R (Kd.int .i64) 3 w' w.heap.size (fun k_ => some k_ ≠ (.slice Ao41 t315.length co41 : Value).ownBlock ∧ some k_ ≠ (.slice Ao40 t318.length co40 : Value).ownBlock ∧ some k_ ≠ (.slice Ao39 t321.length co39 : Value).ownBlock) (.slice Ao38 y324.length co38) y324) ∧ (Kd.S (Kd.slice 79 k79) 61 w' w.heap.size (fun k_ => some k_ ≠ (s_.2 : Value).ownBlock) s_.1 y328) ∧ (Kd.S (Kd.slice 79 k79) 61 w' w.heap.size (fun k_ => some k_ ≠ (s_.1 : Value).ownBlock) s_.2 y334) ∧ (w'.heap[gb308]? = some (.cells #[.int .i64 a0_0, .int .i64 a0_1, .slice A0_2 l0_2.length c0_2] 28 (0, 0))) ∧ (w'.heap[gb309]? = some (.cells #[.slice A1_0 l1_0.length c1_0, .slice A1_1 l1_1.length c1_1] 32 (0, 0))) ∧ (w'.heap[gb310]? = some (.cells #[.int .i64 0, .int .i64 0, .slice none 0 0, .slice none 0 0, .slice none 0 0, .slice none 0 0, .slice none 0 0, .slice none 0 0, .slice none 0 0, .slice none 0 0, .int .i64 0] 38 (0, 0))) ∧ (w'.heap[gb327]? = some (.cells #[.int .i64 t313, .int .i64 t314, .slice Ao41 t315.length co41, .slice Ao40 t318.length co40, .slice Ao39 t321.length co39, .slice none 0 0, .slice none 0 0, .slice Ao38 y324.length co38, .slice none 0 0, .slice none 0 0, .int .i64 0] 38 (0, 0))) ∧ (Below w.heap.size w w')) ?_ ?_
         rotate_left
         ·intro hJ2_6
          refine join_ (σ := Value) 6 #[true, true, true, true, false, true, false, true, true, false, false, false, false] (fun s_ => [(26, s_), (31, .pointer (some ⟨gb327, 5, none⟩))]) (fun s_ w' => (Kd.R (Kd.int .i64) 3 w' w.heap.size (fun k_ => some k_ ≠ (.slice Ao40 t318.length co40 : Value).ownBlock ∧ some k_ ≠ (.slice Ao39 t321.length co39 : Value).ownBlock ∧ some k_ ≠ (.slice Ao38 y324.length co38 : Value).ownBlock) (.slice Ao41 t315.length co41) t315) ∧ (Kd.R (Kd.int .i64) 3 w' w.heap.size (fun k_ => some k_ ≠ (.slice Ao41 t315.length co41 : Value).ownBlock ∧ some k_ ≠ (.slice Ao39 t321.length co39 : Value).ownBlock ∧ some k_ ≠ (.slice Ao38 y324.length co38 : Value).ownBlock) (.slice Ao40 t318.length co40) t318) ∧ (Kd.R (Kd.int .i64) 3 w' w.heap.size (fun k_ => some k_ ≠ (.slice Ao41 t315.length co41 : Value).ownBlock ∧ some k_ ≠ (.slice Ao40 t318.length co40 : Value).ownBlock ∧ some k_ ≠ (.slice Ao38 y324.length co38 : Value).ownBlock) (.slice Ao39 t321.length co39) t321) ∧ (Kd.R (Kd.int .i64) 3 w' w.heap.size (fun k_ => some k_ ≠ (.slice Ao41 t315.length co41 : Value).ownBlock ∧ some k_ ≠ (.slice Ao40 t318.length co40 : Value).ownBlock ∧ some k_ ≠ (.slice Ao39 t321.length co39 : Value).ownBlock) (.slice Ao38 y324.length co38) y324) ∧ (Kd.S (Kd.slice 79 k79) 61 w' w.heap.size (fun _ => True) s_ y328) ∧ (w'.heap[gb308]? = some (.cells #[.int .i64 a0_0, .int .i64 a0_1, .slice A0_2 l0_2.length c0_2] 28 (0, 0))) ∧ (w'.heap[gb309]? = some (.cells #[.slice A1_0 l1_0.length c1_0, .slice A1_1 l1_1.length c1_1] 32 (0, 0))) ∧ (w'.heap[gb310]? = some (.cells #[.int .i64 0, .int .i64 0, .slice none 0 0, .slice none 0 0, .slice none 0 0, .slice none 0 0, .slice none 0 0, .slice none 0 0, .slice none 0 0, .slice none 0 0, .int .i64 0] 38 (0, 0))) ∧ (w'.heap[gb327]? = some (.cells #[.int .i64 t313, .int .i64 t314, .slice Ao41 t315.length co41, .slice Ao40 t318.length co40, .slice Ao39 t321.length co39, s_, .slice none 0 0, .slice Ao38 y324.length co38, .slice none 0 0, .slice none 0 0, .int .i64 0] 38 (0, 0))) ∧ (Below w.heap.size w w')) ?_ ?_
          rotate_left
          ·intro hJ2_8
           refine join_ (σ := Value × Value) 7 #[true, true, false, true, true, true, true, false, false, false, false, false, false] (fun s_ => [(28, s_.1), (30, s_.2)]) (fun s_ w' => (Kd.R (Kd.int .i64) 3 w' w.heap.size (fun k_ => some k_ ≠ (.slice Ao40 t318.length co40 : Value).ownBlock ∧ some k_ ≠ (.slice Ao39 t321.length co39 : Value).ownBlock ∧ some k_ ≠ (.slice Ao38 y324.length co38 : Value).ownBlock) (.slice Ao41 t315.length co41) t315) ∧ (Kd.R (Kd.int .i64) 3 w' w.heap.size (fun k_ => some k_ ≠ (.slice Ao41 t315.length co41 : Value).ownBlock ∧ some k_ ≠ (.slice Ao39 t321.length co39 : Value).ownBlock ∧ some k_ ≠ (.slice Ao38 y324.length co38 : Value).ownBlock) (.slice Ao40 t318.length co40) t318) ∧ (Kd.R (Kd.int .i64) 3 w' w.heap.size (fun k_ => some k_ ≠ (.slice Ao41 t315.length co41 : Value).ownBlock ∧ some k_ ≠ (.slice Ao40 t318.length co40 : Value).ownBlock ∧ some k_ ≠ (.slice Ao38 y324.length co38 : Value).ownBlock) (.slice Ao39 t321.length co39) t321) ∧ (Kd.R (Kd.int .i64) 3 w' w.heap.size (fun k_ => some k_ ≠ (.slice Ao41 t315.length co41 : Value).ownBlock ∧ some k_ ≠ (.slice Ao40 t318.length co40 : Value).ownBlock ∧ some k_ ≠ (.slice Ao39 t321.length co39 : Value).ownBlock) (.slice Ao38 y324.length co38) y324) ∧ (Kd.S (Kd.slice 79 k79) 61 w' w.heap.size (fun k_ => some k_ ≠ (s_.2 : Value).ownBlock) s_.1 y331) ∧ (Kd.S (Kd.slice 79 k79) 61 w' w.heap.size (fun k_ => some k_ ≠ (s_.1 : Value).ownBlock) s_.2 y334) ∧ (w'.heap[gb308]? = some (.cells #[.int .i64 a0_0, .int .i64 a0_1, .slice A0_2 l0_2.length c0_2] 28 (0, 0))) ∧ (w'.heap[gb309]? = some (.cells #[.slice A1_0 l1_0.length c1_0, .slice A1_1 l1_1.length c1_1] 32 (0, 0))) ∧ (w'.heap[gb310]? = some (.cells #[.int .i64 0, .int .i64 0, .slice none 0 0, .slice none 0 0, .slice none 0 0, .slice none 0 0, .slice none 0 0, .slice none 0 0, .slice none 0 0, .slice none 0 0, .int .i64 0] 38 (0, 0))) ∧ (w'.heap[gb327]? = some (.cells #[.int .i64 t313, .int .i64 t314, .slice Ao41 t315.length co41, .slice Ao40 t318.length co40, .slice Ao39 t321.length co39, .slice none 0 0, .slice none 0 0, .slice Ao38 y324.length co38, .slice none 0 0, .slice none 0 0, .int .i64 0] 38 (0, 0))) ∧ (Below w.heap.size w w')) ?_ ?_
           rotate_left
           ·intro hJ4_6
            refine join_ (σ := Value) 7 #[true, true, true, true, false, true, false, true, false, false, false, false, false] (fun s_ => [(26, s_), (31, .pointer (some ⟨gb327, 5, none⟩))]) (fun s_ w' => (Kd.R (Kd.int .i64) 3 w' w.heap.size (fun k_ => some k_ ≠ (.slice Ao40 t318.length co40 : Value).ownBlock ∧ some k_ ≠ (.slice Ao39 t321.length co39 : Value).ownBlock ∧ some k_ ≠ (.slice Ao38 y324.length co38 : Value).ownBlock) (.slice Ao41 t315.length co41) t315) ∧ (Kd.R (Kd.int .i64) 3 w' w.heap.size (fun k_ => some k_ ≠ (.slice Ao41 t315.length co41 : Value).ownBlock ∧ some k_ ≠ (.slice Ao39 t321.length co39 : Value).ownBlock ∧ some k_ ≠ (.slice Ao38 y324.length co38 : Value).ownBlock) (.slice Ao40 t318.length co40) t318) ∧ (Kd.R (Kd.int .i64) 3 w' w.heap.size (fun k_ => some k_ ≠ (.slice Ao41 t315.length co41 : Value).ownBlock ∧ some k_ ≠ (.slice Ao40 t318.length co40 : Value).ownBlock ∧ some k_ ≠ (.slice Ao38 y324.length co38 : Value).ownBlock) (.slice Ao39 t321.length co39) t321) ∧ (Kd.R (Kd.int .i64) 3 w' w.heap.size (fun k_ => some k_ ≠ (.slice Ao41 t315.length co41 : Value).ownBlock ∧ some k_ ≠ (.slice Ao40 t318.length co40 : Value).ownBlock ∧ some k_ ≠ (.slice Ao39 t321.length co39 : Value).ownBlock) (.slice Ao38 y324.length co38) y324) ∧ (Kd.S (Kd.slice 79 k79) 61 w' w.heap.size (fun _ => True) s_ y328) ∧ (w'.heap[gb308]? = some (.cells #[.int .i64 a0_0, .int .i64 a0_1, .slice A0_2 l0_2.length c0_2] 28 (0, 0))) ∧ (w'.heap[gb309]? = some (.cells #[.slice A1_0 l1_0.length c1_0, .slice A1_1 l1_1.length c1_1] 32 (0, 0))) ∧ (w'.heap[gb310]? = some (.cells #[.int .i64 0, .int .i64 0, .slice none 0 0, .slice none 0 0, .slice none 0 0, .slice none 0 0, .slice none 0 0, .slice none 0 0, .slice none 0 0, .slice none 0 0, .int .i64 0] 38 (0, 0))) ∧ (w'.heap[gb327]? = some (.cells #[.int .i64 t313, .int .i64 t314, .slice Ao41 t315.length co41, .slice Ao40 t318.length co40, .slice Ao39 t321.length co39, .slice none 0 0, .slice none 0 0, .slice Ao38 y324.length co38, .slice none 0 0, .slice none 0 0, .int .i64 0] 38 (0, 0))) ∧ (Below w.heap.size w w')) ?_ ?_
            rotate_left
            ·intro hJ2
             refine join_ (σ := Value) 8 #[true, true, false, true, true, true, false, false, false, false, false, false, false] (fun s_ => [(28, s_)]) (fun s_ w' => (Kd.R (Kd.int .i64) 3 w' w.heap.size (fun k_ => some k_ ≠ (.slice Ao40 t318.length co40 : Value).ownBlock ∧ some k_ ≠ (.slice Ao39 t321.length co39 : Value).ownBlock ∧ some k_ ≠ (.slice Ao38 y324.length co38 : Value).ownBlock) (.slice Ao41 t315.length co41) t315) ∧ (Kd.R (Kd.int .i64) 3 w' w.heap.size (fun k_ => some k_ ≠ (.slice Ao41 t315.length co41 : Value).ownBlock ∧ some k_ ≠ (.slice Ao39 t321.length co39 : Value).ownBlock ∧ some k_ ≠ (.slice Ao38 y324.length co38 : Value).ownBlock) (.slice Ao40 t318.length co40) t318) ∧ (Kd.R (Kd.int .i64) 3 w' w.heap.size (fun k_ => some k_ ≠ (.slice Ao41 t315.length co41 : Value).ownBlock ∧ some k_ ≠ (.slice Ao40 t318.length co40 : Value).ownBlock ∧ some k_ ≠ (.slice Ao38 y324.length co38 : Value).ownBlock) (.slice Ao39 t321.length co39) t321) ∧ (Kd.R (Kd.int .i64) 3 w' w.heap.size (fun k_ => some k_ ≠ (.slice Ao41 t315.length co41 : Value).ownBlock ∧ some k_ ≠ (.slice Ao40 t318.length co40 : Value).ownBlock ∧ some k_ ≠ (.slice Ao39 t321.length co39 : Value).ownBlock) (.slice Ao38 y324.length co38) y324) ∧ (Kd.S (Kd.slice 79 k79) 61 w' w.heap.size (fun _ => True) s_ y331) ∧ (w'.heap[gb308]? = some (.cells #[.int .i64 a0_0, .int .i64 a0_1, .slice A0_2 l0_2.length c0_2] 28 (0, 0))) ∧ (w'.heap[gb309]? = some (.cells #[.slice A1_0 l1_0.length c1_0, .slice A1_1 l1_1.length c1_1] 32 (0, 0))) ∧ (w'.heap[gb310]? = some (.cells #[.int .i64 0, .int .i64 0, .slice none 0 0, .slice none 0 0, .slice none 0 0, .slice none 0 0, .slice none 0 0, .slice none 0 0, .slice none 0 0, .slice none 0 0, .int .i64 0] 38 (0, 0))) ∧ (w'.heap[gb327]? = some (.cells #[.int .i64 t313, .int .i64 t314, .slice Ao41 t315.length co41, .slice Ao40 t318.length co40, .slice Ao39 t321.length co39, .slice none 0 0, .slice none 0 0, .slice Ao38 y324.length co38, .slice none 0 0, .slice none 0 0, .int .i64 0] 38 (0, 0))) ∧ (Below w.heap.size w w')) ?_ ?_
             rotate_left
             ·intro hJ4
              refine join_ (σ := Value) 8 #[true, true, false, true, false, true, true, false, false, false, false, false, false] (fun s_ => [(30, s_)]) (fun s_ w' => (Kd.R (Kd.int .i64) 3 w' w.heap.size (fun k_ => some k_ ≠ (.slice Ao40 t318.length co40 : Value).ownBlock ∧ some k_ ≠ (.slice Ao39 t321.length co39 : Value).ownBlock ∧ some k_ ≠ (.slice Ao38 y324.length co38 : Value).ownBlock) (.slice Ao41 t315.length co41) t315) ∧ (Kd.R (Kd.int .i64) 3 w' w.heap.size (fun k_ => some k_ ≠ (.slice Ao41 t315.length co41 : Value).ownBlock ∧ some k_ ≠ (.slice Ao39 t321.length co39 : Value).ownBlock ∧ some k_ ≠ (.slice Ao38 y324.length co38 : Value).ownBlock) (.slice Ao40 t318.length co40) t318) ∧ (Kd.R (Kd.int .i64) 3 w' w.heap.size (fun k_ => some k_ ≠ (.slice Ao41 t315.length co41 : Value).ownBlock ∧ some k_ ≠ (.slice Ao40 t318.length co40 : Value).ownBlock ∧ some k_ ≠ (.slice Ao38 y324.length co38 : Value).ownBlock) (.slice Ao39 t321.length co39) t321) ∧ (Kd.R (Kd.int .i64) 3 w' w.heap.size (fun k_ => some k_ ≠ (.slice Ao41 t315.length co41 : Value).ownBlock ∧ some k_ ≠ (.slice Ao40 t318.length co40 : Value).ownBlock ∧ some k_ ≠ (.slice Ao39 t321.length co39 : Value).ownBlock) (.slice Ao38 y324.length co38) y324) ∧ (Kd.S (Kd.slice 79 k79) 61 w' w.heap.size (fun _ => True) s_ y334) ∧ (w'.heap[gb308]? = some (.cells #[.int .i64 a0_0, .int .i64 a0_1, .slice A0_2 l0_2.length c0_2] 28 (0, 0))) ∧ (w'.heap[gb309]? = some (.cells #[.slice A1_0 l1_0.length c1_0, .slice A1_1 l1_1.length c1_1] 32 (0, 0))) ∧ (w'.heap[gb310]? = some (.cells #[.int .i64 0, .int .i64 0, .slice none 0 0, .slice none 0 0, .slice none 0 0, .slice none 0 0, .slice none 0 0, .slice none 0 0, .slice none 0 0, .slice none 0 0, .int .i64 0] 38 (0, 0))) ∧ (w'.heap[gb327]? = some (.cells #[.int .i64 t313, .int .i64 t314, .slice Ao41 t315.length co41, .slice Ao40 t318.length co40, .slice Ao39 t321.length co39, .slice none 0 0, .slice none 0 0, .slice Ao38 y324.length co38, .slice none 0 0, .slice none 0 0, .int .i64 0] 38 (0, 0))) ∧ (Below w.heap.size w w')) ?_ ?_
              rotate_left
              ·intro hJ6
               refine three_ (i := 2) (j := 4) (k := 6) (Ni := some 26) (Nj := some 28) (Nk := some 30) #[true, true, true, true, false, true, false, false, false, false, false, false, false] #[true, true, false, true, true, true, false, false, false, false, false, false, false] #[true, true, false, true, false, true, true, false, false, false, false, false, false] rfl rfl rfl rfl rfl rfl (three_of HT_.out (by kernel_rfl)) (by decide) (by decide) (by decide) (fun K hK => ?_) (fun K hK => ?_) (fun K hK => ?_)
               ·skip
                refine Kd.S_make_step (Kd.slice 79 k79) _ 61 (by rfl) (N := 26) rfl 36 _ _ rfl ji11 rfl rfl Try.underlying36 (.slice none 0 0) 24 info61 rfl (by decide) (by omega) [] (ok := fun _ => True) (okp := fun _ => True) ⟨_, rfl, Kd.R_nil _ _ _ _ _⟩ (fun _ hk => hk) trivial (of_decide_eq_true dg_) (Nat.le_trans (Nat.mul_le_mul_right _ (of_decide_eq_true dg_ : ji11.toNat ≤ 11728124029610)) (by omega)) (Below.refl _ _) (Nat.le_refl _) ?_
                intro v329 w55 ho56 hb hg_ hnew_
                clear hg_ hnew_
                (first | rw [← Ny328.out] at ho56 | (simp only [Int.reduceToNat] at ho56; rw [← Ny328.out] at ho56))
                have n0_ := Aside0.mk (Kd.R_below (ra_ HO317.out) hb)
                have n1_ := Aside0.mk (Kd.R_below (ra_ HO320.out) hb)
                have n2_ := Aside0.mk (Kd.R_below (ra_ HO323.out) hb)
                have n3_ := Aside0.mk (Kd.R_below (ra_ HO326.out) hb)
                have n4_ := Aside0.mk (Kd.S_lower ho56 (bz_ HB.out))
                have n5_ := Aside0.mk (bk_ BK308.out hb)
                have n6_ := Aside0.mk (bk_ BK309.out hb)
                have n7_ := Aside0.mk (bk_ BK310.out hb)
                have n8_ := Aside0.mk (bk_ BK327.out hb)
                have n9_ := Aside0.mk (bs_ HB.out hb)
                clear HO317 HO320 HO323 HO326 BK308 BK309 BK310 BK327 HB
                have HO317 := n0_
                have HO320 := n1_
                have HO323 := n2_
                have HO326 := n3_
                have HO330 := n4_
                have BK308 := n5_
                have BK309 := n6_
                have BK310 := n7_
                have BK327 := n8_
                have HB := n9_
                clear n0_ n1_ n2_ n3_ n4_ n5_ n6_ n7_ n8_ n9_ hb ho56
                refine hK.out _ _ trivial (fun hHeld => ?_)
                clear hK K
                refine norm_ (a' := ?_) ?_ ?_
                rotate_left
                ·show Act.put _ (some 26) _ = _
                 simp only [Act.put, List.setIfInBounds_toArray, List.set_cons_zero, List.set_cons_succ, i64_w, i32_w]
                 rfl
                refine pu_ 7 31 (bt_ 13 175) HT_ ?_
                exact norm_ (by simp only [putAll, Act.put, List.setIfInBounds_toArray, List.set_cons_zero, List.set_cons_succ]; first | done | rfl) (hJ2 (v329) _ ⟨(ra_ HO317.out), (ra_ HO320.out), (ra_ HO323.out), (ra_ HO326.out), (sa_ HO330.out), bq_ BK308.out, bq_ BK309.out, bq_ BK310.out, bq_ BK327.out, (by repeat (first | (with_reducible first | exact HB.out | apply below_alloc | apply pw_below_drewN | apply below_drew1 | refine below_set ?_ GE308.out | refine below_set ?_ GE309.out | refine below_set ?_ GE310.out | refine below_set ?_ GE327.out) | exact HB.out))⟩)
               ·skip
                refine Kd.S_make_step (Kd.slice 79 k79) _ 61 (by rfl) (N := 28) rfl 36 _ _ rfl t312 rfl rfl Try.underlying36 (.slice none 0 0) 24 info61 rfl (by decide) (by omega) [] (ok := fun _ => True) (okp := fun _ => True) ⟨_, rfl, Kd.R_nil _ _ _ _ _⟩ (fun _ hk => hk) trivial (of_decide_eq_true dg_) (Nat.le_trans (Nat.mul_le_mul_right _ (of_decide_eq_true dg_ : t312.toNat ≤ 11728124029610)) (by omega)) (Below.refl _ _) (Nat.le_refl _) ?_
                intro v332 w55 ho56 hb hg_ hnew_
                clear hg_ hnew_
                (first | rw [← Ny331.out] at ho56 | (simp only [Int.reduceToNat] at ho56; rw [← Ny331.out] at ho56))
                have n0_ := Aside0.mk (Kd.R_below (ra_ HO317.out) hb)
                have n1_ := Aside0.mk (Kd.R_below (ra_ HO320.out) hb)
                have n2_ := Aside0.mk (Kd.R_below (ra_ HO323.out) hb)
                have n3_ := Aside0.mk (Kd.R_below (ra_ HO326.out) hb)
                have n4_ := Aside0.mk (Kd.S_lower ho56 (bz_ HB.out))
                have n5_ := Aside0.mk (bk_ BK308.out hb)
                have n6_ := Aside0.mk (bk_ BK309.out hb)
                have n7_ := Aside0.mk (bk_ BK310.out hb)
                have n8_ := Aside0.mk (bk_ BK327.out hb)
                have n9_ := Aside0.mk (bs_ HB.out hb)
                clear HO317 HO320 HO323 HO326 BK308 BK309 BK310 BK327 HB
                have HO317 := n0_
                have HO320 := n1_
                have HO323 := n2_
                have HO326 := n3_
                have HO333 := n4_
                have BK308 := n5_
                have BK309 := n6_
                have BK310 := n7_
                have BK327 := n8_
                have HB := n9_
                clear n0_ n1_ n2_ n3_ n4_ n5_ n6_ n7_ n8_ n9_ hb ho56
                refine hK.out _ _ trivial (fun hHeld => ?_)
                clear hK K
                refine norm_ (a' := ?_) ?_ ?_
                rotate_left
                ·show Act.put _ (some 28) _ = _
                 simp only [Act.put, List.setIfInBounds_toArray, List.set_cons_zero, List.set_cons_succ, i64_w, i32_w]
                 rfl
                exact norm_ (by simp only [putAll, Act.put, List.setIfInBounds_toArray, List.set_cons_zero, List.set_cons_succ]; first | done | rfl) (hJ4 (v332) _ ⟨(ra_ HO317.out), (ra_ HO320.out), (ra_ HO323.out), (ra_ HO326.out), (sa_ HO333.out), bq_ BK308.out, bq_ BK309.out, bq_ BK310.out, bq_ BK327.out, (by repeat (first | (with_reducible first | exact HB.out | apply below_alloc | apply pw_below_drewN | apply below_drew1 | refine below_set ?_ GE308.out | refine below_set ?_ GE309.out | refine below_set ?_ GE310.out | refine below_set ?_ GE327.out) | exact HB.out))⟩)
               ·skip
                refine Kd.S_make_step (Kd.slice 79 k79) _ 61 (by rfl) (N := 30) rfl 36 _ _ rfl t312 rfl rfl Try.underlying36 (.slice none 0 0) 24 info61 rfl (by decide) (by omega) [] (ok := fun _ => True) (okp := fun _ => True) ⟨_, rfl, Kd.R_nil _ _ _ _ _⟩ (fun _ hk => hk) trivial (of_decide_eq_true dg_) (Nat.le_trans (Nat.mul_le_mul_right _ (of_decide_eq_true dg_ : t312.toNat ≤ 11728124029610)) (by omega)) (Below.refl _ _) (Nat.le_refl _) ?_
                intro v335 w55 ho56 hb hg_ hnew_
                clear hg_ hnew_
                (first | rw [← Ny334.out] at ho56 | (simp only [Int.reduceToNat] at ho56; rw [← Ny334.out] at ho56))
                have n0_ := Aside0.mk (Kd.R_below (ra_ HO317.out) hb)
                have n1_ := Aside0.mk (Kd.R_below (ra_ HO320.out) hb)
                have n2_ := Aside0.mk (Kd.R_below (ra_ HO323.out) hb)
                have n3_ := Aside0.mk (Kd.R_below (ra_ HO326.out) hb)
                have n4_ := Aside0.mk (Kd.S_lower ho56 (bz_ HB.out))
                have n5_ := Aside0.mk (bk_ BK308.out hb)
                have n6_ := Aside0.mk (bk_ BK309.out hb)
                have n7_ := Aside0.mk (bk_ BK310.out hb)
                have n8_ := Aside0.mk (bk_ BK327.out hb)
                have n9_ := Aside0.mk (bs_ HB.out hb)
                clear HO317 HO320 HO323 HO326 BK308 BK309 BK310 BK327 HB
                have HO317 := n0_
                have HO320 := n1_
                have HO323 := n2_
                have HO326 := n3_
                have HO336 := n4_
                have BK308 := n5_
                have BK309 := n6_
                have BK310 := n7_
                have BK327 := n8_
                have HB := n9_
                clear n0_ n1_ n2_ n3_ n4_ n5_ n6_ n7_ n8_ n9_ hb ho56
                refine hK.out _ _ trivial (fun hHeld => ?_)
                clear hK K
                refine norm_ (a' := ?_) ?_ ?_
                rotate_left
                ·show Act.put _ (some 30) _ = _
                 simp only [Act.put, List.setIfInBounds_toArray, List.set_cons_zero, List.set_cons_succ, i64_w, i32_w]
                 rfl
                exact norm_ (by simp only [putAll, Act.put, List.setIfInBounds_toArray, List.set_cons_zero, List.set_cons_succ]; first | done | rfl) (hJ6 (v335) _ ⟨(ra_ HO317.out), (ra_ HO320.out), (ra_ HO323.out), (ra_ HO326.out), (sa_ HO336.out), bq_ BK308.out, bq_ BK309.out, bq_ BK310.out, bq_ BK327.out, (by repeat (first | (with_reducible first | exact HB.out | apply below_alloc | apply pw_below_drewN | apply below_drew1 | refine below_set ?_ GE308.out | refine below_set ?_ GE309.out | refine below_set ?_ GE310.out | refine below_set ?_ GE327.out) | exact HB.out))⟩)
              ·skip
               rintro v335 w57 ⟨h0_, h1_, h2_, h3_, h4_, h5_, h6_, h7_, h8_, h9_⟩
               replace HO317 : Aside0 (Kd.R (Kd.int .i64) 3 w57 w.heap.size (fun k_ => some k_ ≠ (.slice Ao40 t318.length co40 : Value).ownBlock ∧ some k_ ≠ (.slice Ao39 t321.length co39 : Value).ownBlock ∧ some k_ ≠ (.slice Ao38 y324.length co38 : Value).ownBlock) (.slice Ao41 t315.length co41) t315) := ⟨h0_⟩
               replace HO320 : Aside0 (Kd.R (Kd.int .i64) 3 w57 w.heap.size (fun k_ => some k_ ≠ (.slice Ao41 t315.length co41 : Value).ownBlock ∧ some k_ ≠ (.slice Ao39 t321.length co39 : Value).ownBlock ∧ some k_ ≠ (.slice Ao38 y324.length co38 : Value).ownBlock) (.slice Ao40 t318.length co40) t318) := ⟨h1_⟩
               replace HO323 : Aside0 (Kd.R (Kd.int .i64) 3 w57 w.heap.size (fun k_ => some k_ ≠ (.slice Ao41 t315.length co41 : Value).ownBlock ∧ some k_ ≠ (.slice Ao40 t318.length co40 : Value).ownBlock ∧ some k_ ≠ (.slice Ao38 y324.length co38 : Value).ownBlock) (.slice Ao39 t321.length co39) t321) := ⟨h2_⟩
               replace HO326 : Aside0 (Kd.R (Kd.int .i64) 3 w57 w.heap.size (fun k_ => some k_ ≠ (.slice Ao41 t315.length co41 : Value).ownBlock ∧ some k_ ≠ (.slice Ao40 t318.length co40 : Value).ownBlock ∧ some k_ ≠ (.slice Ao39 t321.length co39 : Value).ownBlock) (.slice Ao38 y324.length co38) y324) := ⟨h3_⟩
               have HO336 : Aside0 (Kd.S (Kd.slice 79 k79) 61 w57 w.heap.size (fun _ => True) v335 y334) := ⟨h4_⟩
               replace BK308 : Aside0 (w57.heap[gb308]? = some (.cells #[.int .i64 a0_0, .int .i64 a0_1, .slice A0_2 l0_2.length c0_2] 28 (0, 0))) := ⟨h5_⟩
               replace BK309 : Aside0 (w57.heap[gb309]? = some (.cells #[.slice A1_0 l1_0.length c1_0, .slice A1_1 l1_1.length c1_1] 32 (0, 0))) := ⟨h6_⟩
               replace BK310 : Aside0 (w57.heap[gb310]? = some (.cells #[.int .i64 0, .int .i64 0, .slice none 0 0, .slice none 0 0, .slice none 0 0, .slice none 0 0, .slice none 0 0, .slice none 0 0, .slice none 0 0, .slice none 0 0, .int .i64 0] 38 (0, 0))) := ⟨h7_⟩
               replace BK327 : Aside0 (w57.heap[gb327]? = some (.cells #[.int .i64 t313, .int .i64 t314, .slice Ao41 t315.length co41, .slice Ao40 t318.length co40, .slice Ao39 t321.length co39, .slice none 0 0, .slice none 0 0, .slice Ao38 y324.length co38, .slice none 0 0, .slice none 0 0, .int .i64 0] 38 (0, 0))) := ⟨h8_⟩
               replace HB : Aside0 (Below w.heap.size w w57) := ⟨h9_⟩
               clear h0_ h1_ h2_ h3_ h4_ h5_ h6_ h7_ h8_ h9_
               have hHeld := trivial
               refine norm_ (a' := ?_) ?_ ?_
               rotate_left
               ·simp only [putAll, Act.put, List.setIfInBounds_toArray, List.set_cons_zero, List.set_cons_succ]
                rfl
               refine two_ (i := 2) (j := 4) (Ni := some 26) (Nj := some 28) #[true, true, true, true, false, true, true, false, false, false, false, false, false] #[true, true, false, true, true, true, true, false, false, false, false, false, false] rfl rfl rfl rfl (two_of HT_.out (by kernel_rfl)) (by decide) (by decide) (fun K hK => ?_) (fun K hK => ?_)
               ·skip
                refine Kd.S_make_step (Kd.slice 79 k79) _ 61 (by rfl) (N := 26) rfl 36 _ _ rfl ji11 rfl rfl Try.underlying36 (.slice none 0 0) 24 info61 rfl (by decide) (by omega) [] (ok := fun _ => True) (okp := fun _ => True) ⟨_, rfl, Kd.R_nil _ _ _ _ _⟩ (fun _ hk => hk) trivial (of_decide_eq_true dg_) (Nat.le_trans (Nat.mul_le_mul_right _ (of_decide_eq_true dg_ : ji11.toNat ≤ 11728124029610)) (by omega)) (Below.refl _ _) (Nat.le_refl _) ?_
                intro v329 w58 ho59 hb hg_ hnew_
                clear hg_ hnew_
                (first | rw [← Ny328.out] at ho59 | (simp only [Int.reduceToNat] at ho59; rw [← Ny328.out] at ho59))
                have n0_ := Aside0.mk (Kd.R_below (ra_ HO317.out) hb)
                have n1_ := Aside0.mk (Kd.R_below (ra_ HO320.out) hb)
                have n2_ := Aside0.mk (Kd.R_below (ra_ HO323.out) hb)
                have n3_ := Aside0.mk (Kd.R_below (ra_ HO326.out) hb)
                have n4_ := Aside0.mk (Kd.S_elder' (sa_ HO336.out) (Kd.S_base ho59) hb)
                have n5_ := Aside0.mk (Kd.S_lower (Kd.S_new' ho59 (sl_ HO336.out)) (bz_ HB.out))
                have n6_ := Aside0.mk (bk_ BK308.out hb)
                have n7_ := Aside0.mk (bk_ BK309.out hb)
                have n8_ := Aside0.mk (bk_ BK310.out hb)
                have n9_ := Aside0.mk (bk_ BK327.out hb)
                have n10_ := Aside0.mk (bs_ HB.out hb)
                clear HO317 HO320 HO323 HO326 HO336 BK308 BK309 BK310 BK327 HB
                have HO317 := n0_
                have HO320 := n1_
                have HO323 := n2_
                have HO326 := n3_
                have HO336 := n4_
                have HO330 := n5_
                have BK308 := n6_
                have BK309 := n7_
                have BK310 := n8_
                have BK327 := n9_
                have HB := n10_
                clear n0_ n1_ n2_ n3_ n4_ n5_ n6_ n7_ n8_ n9_ n10_ hb ho59
                refine hK.out _ _ trivial (fun hHeld => ?_)
                clear hK K
                refine norm_ (a' := ?_) ?_ ?_
                rotate_left
                ·show Act.put _ (some 26) _ = _
                 simp only [Act.put, List.setIfInBounds_toArray, List.set_cons_zero, List.set_cons_succ, i64_w, i32_w]
                 rfl
                refine pu_ 7 31 (bt_ 13 239) HT_ ?_
                exact norm_ (by simp only [putAll, Act.put, List.setIfInBounds_toArray, List.set_cons_zero, List.set_cons_succ]; first | done | rfl) (hJ2_6 (v329, v335) _ ⟨(ra_ HO317.out), (ra_ HO320.out), (ra_ HO323.out), (ra_ HO326.out), (by (with_reducible repeat (first | apply Kd.S_alloc | apply Kd.S_drewN | apply Kd.S_drew)); exact Kd.S_mono HO330.out (fun _ hk => hk.2)), (by (with_reducible repeat (first | apply Kd.S_alloc | apply Kd.S_drewN | apply Kd.S_drew)); exact Kd.S_mono HO336.out (fun _ hk => hk.2)), bq_ BK308.out, bq_ BK309.out, bq_ BK310.out, bq_ BK327.out, (by repeat (first | (with_reducible first | exact HB.out | apply below_alloc | apply pw_below_drewN | apply below_drew1 | refine below_set ?_ GE308.out | refine below_set ?_ GE309.out | refine below_set ?_ GE310.out | refine below_set ?_ GE327.out) | exact HB.out))⟩)
               ·skip
                refine Kd.S_make_step (Kd.slice 79 k79) _ 61 (by rfl) (N := 28) rfl 36 _ _ rfl t312 rfl rfl Try.underlying36 (.slice none 0 0) 24 info61 rfl (by decide) (by omega) [] (ok := fun _ => True) (okp := fun _ => True) ⟨_, rfl, Kd.R_nil _ _ _ _ _⟩ (fun _ hk => hk) trivial (of_decide_eq_true dg_) (Nat.le_trans (Nat.mul_le_mul_right _ (of_decide_eq_true dg_ : t312.toNat ≤ 11728124029610)) (by omega)) (Below.refl _ _) (Nat.le_refl _) ?_
                intro v332 w58 ho59 hb hg_ hnew_
                clear hg_ hnew_
                (first | rw [← Ny331.out] at ho59 | (simp only [Int.reduceToNat] at ho59; rw [← Ny331.out] at ho59))
                have n0_ := Aside0.mk (Kd.R_below (ra_ HO317.out) hb)
                have n1_ := Aside0.mk (Kd.R_below (ra_ HO320.out) hb)
                have n2_ := Aside0.mk (Kd.R_below (ra_ HO323.out) hb)
                have n3_ := Aside0.mk (Kd.R_below (ra_ HO326.out) hb)
                have n4_ := Aside0.mk (Kd.S_elder' (sa_ HO336.out) (Kd.S_base ho59) hb)
                have n5_ := Aside0.mk (Kd.S_lower (Kd.S_new' ho59 (sl_ HO336.out)) (bz_ HB.out))
                have n6_ := Aside0.mk (bk_ BK308.out hb)
                have n7_ := Aside0.mk (bk_ BK309.out hb)
                have n8_ := Aside0.mk (bk_ BK310.out hb)
                have n9_ := Aside0.mk (bk_ BK327.out hb)
                have n10_ := Aside0.mk (bs_ HB.out hb)
                clear HO317 HO320 HO323 HO326 HO336 BK308 BK309 BK310 BK327 HB
                have HO317 := n0_
                have HO320 := n1_
                have HO323 := n2_
                have HO326 := n3_
                have HO336 := n4_
                have HO333 := n5_
                have BK308 := n6_
                have BK309 := n7_
                have BK310 := n8_
                have BK327 := n9_
                have HB := n10_
                clear n0_ n1_ n2_ n3_ n4_ n5_ n6_ n7_ n8_ n9_ n10_ hb ho59
                refine hK.out _ _ trivial (fun hHeld => ?_)
                clear hK K
                refine norm_ (a' := ?_) ?_ ?_
                rotate_left
                ·show Act.put _ (some 28) _ = _
                 simp only [Act.put, List.setIfInBounds_toArray, List.set_cons_zero, List.set_cons_succ, i64_w, i32_w]
                 rfl
                exact norm_ (by simp only [putAll, Act.put, List.setIfInBounds_toArray, List.set_cons_zero, List.set_cons_succ]; first | done | rfl) (hJ4_6 (v332, v335) _ ⟨(ra_ HO317.out), (ra_ HO320.out), (ra_ HO323.out), (ra_ HO326.out), (by (with_reducible repeat (first | apply Kd.S_alloc | apply Kd.S_drewN | apply Kd.S_drew)); exact Kd.S_mono HO333.out (fun _ hk => hk.2)), (by (with_reducible repeat (first | apply Kd.S_alloc | apply Kd.S_drewN | apply Kd.S_drew)); exact Kd.S_mono HO336.out (fun _ hk => hk.2)), bq_ BK308.out, bq_ BK309.out, bq_ BK310.out, bq_ BK327.out, (by repeat (first | (with_reducible first | exact HB.out | apply below_alloc | apply pw_below_drewN | apply below_drew1 | refine below_set ?_ GE308.out | refine below_set ?_ GE309.out | refine below_set ?_ GE310.out | refine below_set ?_ GE327.out) | exact HB.out))⟩)
             ·skip
              rintro v332 w57 ⟨h0_, h1_, h2_, h3_, h4_, h5_, h6_, h7_, h8_, h9_⟩
              replace HO317 : Aside0 (Kd.R (Kd.int .i64) 3 w57 w.heap.size (fun k_ => some k_ ≠ (.slice Ao40 t318.length co40 : Value).ownBlock ∧ some k_ ≠ (.slice Ao39 t321.length co39 : Value).ownBlock ∧ some k_ ≠ (.slice Ao38 y324.length co38 : Value).ownBlock) (.slice Ao41 t315.length co41) t315) := ⟨h0_⟩
              replace HO320 : Aside0 (Kd.R (Kd.int .i64) 3 w57 w.heap.size (fun k_ => some k_ ≠ (.slice Ao41 t315.length co41 : Value).ownBlock ∧ some k_ ≠ (.slice Ao39 t321.length co39 : Value).ownBlock ∧ some k_ ≠ (.slice Ao38 y324.length co38 : Value).ownBlock) (.slice Ao40 t318.length co40) t318) := ⟨h1_⟩
              replace HO323 : Aside0 (Kd.R (Kd.int .i64) 3 w57 w.heap.size (fun k_ => some k_ ≠ (.slice Ao41 t315.length co41 : Value).ownBlock ∧ some k_ ≠ (.slice Ao40 t318.length co40 : Value).ownBlock ∧ some k_ ≠ (.slice Ao38 y324.length co38 : Value).ownBlock) (.slice Ao39 t321.length co39) t321) := ⟨h2_⟩
              replace HO326 : Aside0 (Kd.R (Kd.int .i64) 3 w57 w.heap.size (fun k_ => some k_ ≠ (.slice Ao41 t315.length co41 : Value).ownBlock ∧ some k_ ≠ (.slice Ao40 t318.length co40 : Value).ownBlock ∧ some k_ ≠ (.slice Ao39 t321.length co39 : Value).ownBlock) (.slice Ao38 y324.length co38) y324) := ⟨h3_⟩
              have HO333 : Aside0 (Kd.S (Kd.slice 79 k79) 61 w57 w.heap.size (fun _ => True) v332 y331) := ⟨h4_⟩
              replace BK308 : Aside0 (w57.heap[gb308]? = some (.cells #[.int .i64 a0_0, .int .i64 a0_1, .slice A0_2 l0_2.length c0_2] 28 (0, 0))) := ⟨h5_⟩
              replace BK309 : Aside0 (w57.heap[gb309]? = some (.cells #[.slice A1_0 l1_0.length c1_0, .slice A1_1 l1_1.length c1_1] 32 (0, 0))) := ⟨h6_⟩
              replace BK310 : Aside0 (w57.heap[gb310]? = some (.cells #[.int .i64 0, .int .i64 0, .slice none 0 0, .slice none 0 0, .slice none 0 0, .slice none 0 0, .slice none 0 0, .slice none 0 0, .slice none 0 0, .slice none 0 0, .int .i64 0] 38 (0, 0))) := ⟨h7_⟩
              replace BK327 : Aside0 (w57.heap[gb327]? = some (.cells #[.int .i64 t313, .int .i64 t314, .slice Ao41 t315.length co41, .slice Ao40 t318.length co40, .slice Ao39 t321.length co39, .slice none 0 0, .slice none 0 0, .slice Ao38 y324.length co38, .slice none 0 0, .slice none 0 0, .int .i64 0] 38 (0, 0))) := ⟨h8_⟩
              replace HB : Aside0 (Below w.heap.size w w57) := ⟨h9_⟩
              clear h0_ h1_ h2_ h3_ h4_ h5_ h6_ h7_ h8_ h9_
              have hHeld := trivial
              refine norm_ (a' := ?_) ?_ ?_
              rotate_left
              ·simp only [putAll, Act.put, List.setIfInBounds_toArray, List.set_cons_zero, List.set_cons_succ]
               rfl
              refine two_ (i := 2) (j := 6) (Ni := some 26) (Nj := some 30) #[true, true, true, true, true, true, false, false, false, false, false, false, false] #[true, true, false, true, true, true, true, false, false, false, false, false, false] rfl rfl rfl rfl (two_of HT_.out (by kernel_rfl)) (by decide) (by decide) (fun K hK => ?_) (fun K hK => ?_)
              ·skip
               refine Kd.S_make_step (Kd.slice 79 k79) _ 61 (by rfl) (N := 26) rfl 36 _ _ rfl ji11 rfl rfl Try.underlying36 (.slice none 0 0) 24 info61 rfl (by decide) (by omega) [] (ok := fun _ => True) (okp := fun _ => True) ⟨_, rfl, Kd.R_nil _ _ _ _ _⟩ (fun _ hk => hk) trivial (of_decide_eq_true dg_) (Nat.le_trans (Nat.mul_le_mul_right _ (of_decide_eq_true dg_ : ji11.toNat ≤ 11728124029610)) (by omega)) (Below.refl _ _) (Nat.le_refl _) ?_
               intro v329 w58 ho59 hb hg_ hnew_
               clear hg_ hnew_
               (first | rw [← Ny328.out] at ho59 | (simp only [Int.reduceToNat] at ho59; rw [← Ny328.out] at ho59))
               have n0_ := Aside0.mk (Kd.R_below (ra_ HO317.out) hb)
               have n1_ := Aside0.mk (Kd.R_below (ra_ HO320.out) hb)
               have n2_ := Aside0.mk (Kd.R_below (ra_ HO323.out) hb)
               have n3_ := Aside0.mk (Kd.R_below (ra_ HO326.out) hb)
               have n4_ := Aside0.mk (Kd.S_elder' (sa_ HO333.out) (Kd.S_base ho59) hb)
               have n5_ := Aside0.mk (Kd.S_lower (Kd.S_new' ho59 (sl_ HO333.out)) (bz_ HB.out))
               have n6_ := Aside0.mk (bk_ BK308.out hb)
               have n7_ := Aside0.mk (bk_ BK309.out hb)
               have n8_ := Aside0.mk (bk_ BK310.out hb)
               have n9_ := Aside0.mk (bk_ BK327.out hb)
               have n10_ := Aside0.mk (bs_ HB.out hb)
               clear HO317 HO320 HO323 HO326 HO333 BK308 BK309 BK310 BK327 HB
               have HO317 := n0_
               have HO320 := n1_
               have HO323 := n2_
               have HO326 := n3_
               have HO333 := n4_
               have HO330 := n5_
               have BK308 := n6_
               have BK309 := n7_
               have BK310 := n8_
               have BK327 := n9_
               have HB := n10_
               clear n0_ n1_ n2_ n3_ n4_ n5_ n6_ n7_ n8_ n9_ n10_ hb ho59
               refine hK.out _ _ trivial (fun hHeld => ?_)
               clear hK K
               refine norm_ (a' := ?_) ?_ ?_
               rotate_left
               ·show Act.put _ (some 26) _ = _
                simp only [Act.put, List.setIfInBounds_toArray, List.set_cons_zero, List.set_cons_succ, i64_w, i32_w]
                rfl
               refine pu_ 7 31 (bt_ 13 191) HT_ ?_
               exact norm_ (by simp only [putAll, Act.put, List.setIfInBounds_toArray, List.set_cons_zero, List.set_cons_succ]; first | done | rfl) (hJ2_4 (v329, v332) _ ⟨(ra_ HO317.out), (ra_ HO320.out), (ra_ HO323.out), (ra_ HO326.out), (by (with_reducible repeat (first | apply Kd.S_alloc | apply Kd.S_drewN | apply Kd.S_drew)); exact Kd.S_mono HO330.out (fun _ hk => hk.2)), (by (with_reducible repeat (first | apply Kd.S_alloc | apply Kd.S_drewN | apply Kd.S_drew)); exact Kd.S_mono HO333.out (fun _ hk => hk.2)), bq_ BK308.out, bq_ BK309.out, bq_ BK310.out, bq_ BK327.out, (by repeat (first | (with_reducible first | exact HB.out | apply below_alloc | apply pw_below_drewN | apply below_drew1 | refine below_set ?_ GE308.out | refine below_set ?_ GE309.out | refine below_set ?_ GE310.out | refine below_set ?_ GE327.out) | exact HB.out))⟩)
              ·skip
               refine Kd.S_make_step (Kd.slice 79 k79) _ 61 (by rfl) (N := 30) rfl 36 _ _ rfl t312 rfl rfl Try.underlying36 (.slice none 0 0) 24 info61 rfl (by decide) (by omega) [] (ok := fun _ => True) (okp := fun _ => True) ⟨_, rfl, Kd.R_nil _ _ _ _ _⟩ (fun _ hk => hk) trivial (of_decide_eq_true dg_) (Nat.le_trans (Nat.mul_le_mul_right _ (of_decide_eq_true dg_ : t312.toNat ≤ 11728124029610)) (by omega)) (Below.refl _ _) (Nat.le_refl _) ?_
               intro v335 w58 ho59 hb hg_ hnew_
               clear hg_ hnew_
               (first | rw [← Ny334.out] at ho59 | (simp only [Int.reduceToNat] at ho59; rw [← Ny334.out] at ho59))
               have n0_ := Aside0.mk (Kd.R_below (ra_ HO317.out) hb)
               have n1_ := Aside0.mk (Kd.R_below (ra_ HO320.out) hb)
               have n2_ := Aside0.mk (Kd.R_below (ra_ HO323.out) hb)
               have n3_ := Aside0.mk (Kd.R_below (ra_ HO326.out) hb)
               have n4_ := Aside0.mk (Kd.S_elder' (sa_ HO333.out) (Kd.S_base ho59) hb)
               have n5_ := Aside0.mk (Kd.S_lower (Kd.S_new' ho59 (sl_ HO333.out)) (bz_ HB.out))
               have n6_ := Aside0.mk (bk_ BK308.out hb)
               have n7_ := Aside0.mk (bk_ BK309.out hb)
               have n8_ := Aside0.mk (bk_ BK310.out hb)
               have n9_ := Aside0.mk (bk_ BK327.out hb)
               have n10_ := Aside0.mk (bs_ HB.out hb)
               clear HO317 HO320 HO323 HO326 HO333 BK308 BK309 BK310 BK327 HB
               have HO317 := n0_
               have HO320 := n1_
               have HO323 := n2_
               have HO326 := n3_
               have HO333 := n4_
               have HO336 := n5_
               have BK308 := n6_
               have BK309 := n7_
               have BK310 := n8_
               have BK327 := n9_
               have HB := n10_
               clear n0_ n1_ n2_ n3_ n4_ n5_ n6_ n7_ n8_ n9_ n10_ hb ho59
               refine hK.out _ _ trivial (fun hHeld => ?_)
               clear hK K
               refine norm_ (a' := ?_) ?_ ?_
               rotate_left
               ·show Act.put _ (some 30) _ = _
                simp only [Act.put, List.setIfInBounds_toArray, List.set_cons_zero, List.set_cons_succ, i64_w, i32_w]
                rfl
               exact norm_ (by simp only [putAll, Act.put, List.setIfInBounds_toArray, List.set_cons_zero, List.set_cons_succ]; first | done | rfl) (hJ4_6 (v332, v335) _ ⟨(ra_ HO317.out), (ra_ HO320.out), (ra_ HO323.out), (ra_ HO326.out), (by (with_reducible repeat (first | apply Kd.S_alloc | apply Kd.S_drewN | apply Kd.S_drew)); exact Kd.S_mono HO333.out (fun _ hk => hk.2)), (by (with_reducible repeat (first | apply Kd.S_alloc | apply Kd.S_drewN | apply Kd.S_drew)); exact Kd.S_mono HO336.out (fun _ hk => hk.2)), bq_ BK308.out, bq_ BK309.out, bq_ BK310.out, bq_ BK327.out, (by repeat (first | (with_reducible first | exact HB.out | apply below_alloc | apply pw_below_drewN | apply below_drew1 | refine below_set ?_ GE308.out | refine below_set ?_ GE309.out | refine below_set ?_ GE310.out | refine below_set ?_ GE327.out) | exact HB.out))⟩)
            ·skip
             rintro v329 w57 ⟨h0_, h1_, h2_, h3_, h4_, h5_, h6_, h7_, h8_, h9_⟩
             replace HO317 : Aside0 (Kd.R (Kd.int .i64) 3 w57 w.heap.size (fun k_ => some k_ ≠ (.slice Ao40 t318.length co40 : Value).ownBlock ∧ some k_ ≠ (.slice Ao39 t321.length co39 : Value).ownBlock ∧ some k_ ≠ (.slice Ao38 y324.length co38 : Value).ownBlock) (.slice Ao41 t315.length co41) t315) := ⟨h0_⟩
             replace HO320 : Aside0 (Kd.R (Kd.int .i64) 3 w57 w.heap.size (fun k_ => some k_ ≠ (.slice Ao41 t315.length co41 : Value).ownBlock ∧ some k_ ≠ (.slice Ao39 t321.length co39 : Value).ownBlock ∧ some k_ ≠ (.slice Ao38 y324.length co38 : Value).ownBlock) (.slice Ao40 t318.length co40) t318) := ⟨h1_⟩
             replace HO323 : Aside0 (Kd.R (Kd.int .i64) 3 w57 w.heap.size (fun k_ => some k_ ≠ (.slice Ao41 t315.length co41 : Value).ownBlock ∧ some k_ ≠ (.slice Ao40 t318.length co40 : Value).ownBlock ∧ some k_ ≠ (.slice Ao38 y324.length co38 : Value).ownBlock) (.slice Ao39 t321.length co39) t321) := ⟨h2_⟩
             replace HO326 : Aside0 (Kd.R (Kd.int .i64) 3 w57 w.heap.size (fun k_ => some k_ ≠ (.slice Ao41 t315.length co41 : Value).ownBlock ∧ some k_ ≠ (.slice Ao40 t318.length co40 : Value).ownBlock ∧ some k_ ≠ (.slice Ao39 t321.length co39 : Value).ownBlock) (.slice Ao38 y324.length co38) y324) := ⟨h3_⟩
             have HO330 : Aside0 (Kd.S (Kd.slice 79 k79) 61 w57 w.heap.size (fun _ => True) v329 y328) := ⟨h4_⟩
             replace BK308 : Aside0 (w57.heap[gb308]? = some (.cells #[.int .i64 a0_0, .int .i64 a0_1, .slice A0_2 l0_2.length c0_2] 28 (0, 0))) := ⟨h5_⟩
             replace BK309 : Aside0 (w57.heap[gb309]? = some (.cells #[.slice A1_0 l1_0.length c1_0, .slice A1_1 l1_1.length c1_1] 32 (0, 0))) := ⟨h6_⟩
             replace BK310 : Aside0 (w57.heap[gb310]? = some (.cells #[.int .i64 0, .int .i64 0, .slice none 0 0, .slice none 0 0, .slice none 0 0, .slice none 0 0, .slice none 0 0, .slice none 0 0, .slice none 0 0, .slice none 0 0, .int .i64 0] 38 (0, 0))) := ⟨h7_⟩
             replace BK327 : Aside0 (w57.heap[gb327]? = some (.cells #[.int .i64 t313, .int .i64 t314, .slice Ao41 t315.length co41, .slice Ao40 t318.length co40, .slice Ao39 t321.length co39, .slice none 0 0, .slice none 0 0, .slice Ao38 y324.length co38, .slice none 0 0, .slice none 0 0, .int .i64 0] 38 (0, 0))) := ⟨h8_⟩
             replace HB : Aside0 (Below w.heap.size w w57) := ⟨h9_⟩
             clear h0_ h1_ h2_ h3_ h4_ h5_ h6_ h7_ h8_ h9_
             have hHeld := trivial
             refine norm_ (a' := ?_) ?_ ?_
             rotate_left
             ·simp only [putAll, Act.put, List.setIfInBounds_toArray, List.set_cons_zero, List.set_cons_succ]
              rfl
             refine three_ (i := 4) (j := 6) (k := 8) (Ni := some 28) (Nj := some 30) (Nk := none) #[true, true, true, true, true, true, false, true, false, false, false, false, false] #[true, true, true, true, false, true, true, true, false, false, false, false, false] #[true, true, true, true, false, true, false, true, true, false, false, false, false] rfl rfl rfl rfl rfl rfl (three_of HT_.out (by kernel_rfl)) (by decide) (by decide) (by decide) (fun K hK => ?_) (fun K hK => ?_) (fun K hK => ?_)
             ·skip
              refine Kd.S_make_step (Kd.slice 79 k79) _ 61 (by rfl) (N := 28) rfl 36 _ _ rfl t312 rfl rfl Try.underlying36 (.slice none 0 0) 24 info61 rfl (by decide) (by omega) [] (ok := fun _ => True) (okp := fun _ => True) ⟨_, rfl, Kd.R_nil _ _ _ _ _⟩ (fun _ hk => hk) trivial (of_decide_eq_true dg_) (Nat.le_trans (Nat.mul_le_mul_right _ (of_decide_eq_true dg_ : t312.toNat ≤ 11728124029610)) (by omega)) (Below.refl _ _) (Nat.le_refl _) ?_
              intro v332 w58 ho59 hb hg_ hnew_
              clear hg_ hnew_
              (first | rw [← Ny331.out] at ho59 | (simp only [Int.reduceToNat] at ho59; rw [← Ny331.out] at ho59))
              have n0_ := Aside0.mk (Kd.R_below (ra_ HO317.out) hb)
              have n1_ := Aside0.mk (Kd.R_below (ra_ HO320.out) hb)
              have n2_ := Aside0.mk (Kd.R_below (ra_ HO323.out) hb)
              have n3_ := Aside0.mk (Kd.R_below (ra_ HO326.out) hb)
              have n4_ := Aside0.mk (Kd.S_elder' (sa_ HO330.out) (Kd.S_base ho59) hb)
              have n5_ := Aside0.mk (Kd.S_lower (Kd.S_new' ho59 (sl_ HO330.out)) (bz_ HB.out))
              have n6_ := Aside0.mk (bk_ BK308.out hb)
              have n7_ := Aside0.mk (bk_ BK309.out hb)
              have n8_ := Aside0.mk (bk_ BK310.out hb)
              have n9_ := Aside0.mk (bk_ BK327.out hb)
              have n10_ := Aside0.mk (bs_ HB.out hb)
              clear HO317 HO320 HO323 HO326 HO330 BK308 BK309 BK310 BK327 HB
              have HO317 := n0_
              have HO320 := n1_
              have HO323 := n2_
              have HO326 := n3_
              have HO330 := n4_
              have HO333 := n5_
              have BK308 := n6_
              have BK309 := n7_
              have BK310 := n8_
              have BK327 := n9_
              have HB := n10_
              clear n0_ n1_ n2_ n3_ n4_ n5_ n6_ n7_ n8_ n9_ n10_ hb ho59
              refine hK.out _ _ trivial (fun hHeld => ?_)
              clear hK K
              refine norm_ (a' := ?_) ?_ ?_
              rotate_left
              ·show Act.put _ (some 28) _ = _
               simp only [Act.put, List.setIfInBounds_toArray, List.set_cons_zero, List.set_cons_succ, i64_w, i32_w]
               rfl
              exact norm_ (by simp only [putAll, Act.put, List.setIfInBounds_toArray, List.set_cons_zero, List.set_cons_succ]; first | done | rfl) (hJ2_4 (v329, v332) _ ⟨(ra_ HO317.out), (ra_ HO320.out), (ra_ HO323.out), (ra_ HO326.out), (by (with_reducible repeat (first | apply Kd.S_alloc | apply Kd.S_drewN | apply Kd.S_drew)); exact Kd.S_mono HO330.out (fun _ hk => hk.2)), (by (with_reducible repeat (first | apply Kd.S_alloc | apply Kd.S_drewN | apply Kd.S_drew)); exact Kd.S_mono HO333.out (fun _ hk => hk.2)), bq_ BK308.out, bq_ BK309.out, bq_ BK310.out, bq_ BK327.out, (by repeat (first | (with_reducible first | exact HB.out | apply below_alloc | apply pw_below_drewN | apply below_drew1 | refine below_set ?_ GE308.out | refine below_set ?_ GE309.out | refine below_set ?_ GE310.out | refine below_set ?_ GE327.out) | exact HB.out))⟩)
             ·skip
              refine Kd.S_make_step (Kd.slice 79 k79) _ 61 (by rfl) (N := 30) rfl 36 _ _ rfl t312 rfl rfl Try.underlying36 (.slice none 0 0) 24 info61 rfl (by decide) (by omega) [] (ok := fun _ => True) (okp := fun _ => True) ⟨_, rfl, Kd.R_nil _ _ _ _ _⟩ (fun _ hk => hk) trivial (of_decide_eq_true dg_) (Nat.le_trans (Nat.mul_le_mul_right _ (of_decide_eq_true dg_ : t312.toNat ≤ 11728124029610)) (by omega)) (Below.refl _ _) (Nat.le_refl _) ?_
              intro v335 w58 ho59 hb hg_ hnew_
              clear hg_ hnew_
              (first | rw [← Ny334.out] at ho59 | (simp only [Int.reduceToNat] at ho59; rw [← Ny334.out] at ho59))
              have n0_ := Aside0.mk (Kd.R_below (ra_ HO317.out) hb)
              have n1_ := Aside0.mk (Kd.R_below (ra_ HO320.out) hb)
              have n2_ := Aside0.mk (Kd.R_below (ra_ HO323.out) hb)
              have n3_ := Aside0.mk (Kd.R_below (ra_ HO326.out) hb)
              have n4_ := Aside0.mk (Kd.S_elder' (sa_ HO330.out) (Kd.S_base ho59) hb)
              have n5_ := Aside0.mk (Kd.S_lower (Kd.S_new' ho59 (sl_ HO330.out)) (bz_ HB.out))
              have n6_ := Aside0.mk (bk_ BK308.out hb)
              have n7_ := Aside0.mk (bk_ BK309.out hb)
              have n8_ := Aside0.mk (bk_ BK310.out hb)
              have n9_ := Aside0.mk (bk_ BK327.out hb)
              have n10_ := Aside0.mk (bs_ HB.out hb)
              clear HO317 HO320 HO323 HO326 HO330 BK308 BK309 BK310 BK327 HB
              have HO317 := n0_
              have HO320 := n1_
              have HO323 := n2_
              have HO326 := n3_
              have HO330 := n4_
              have HO336 := n5_
              have BK308 := n6_
              have BK309 := n7_
              have BK310 := n8_
              have BK327 := n9_
              have HB := n10_
              clear n0_ n1_ n2_ n3_ n4_ n5_ n6_ n7_ n8_ n9_ n10_ hb ho59
              refine hK.out _ _ trivial (fun hHeld => ?_)
              clear hK K
              refine norm_ (a' := ?_) ?_ ?_
              rotate_left
              ·show Act.put _ (some 30) _ = _
               simp only [Act.put, List.setIfInBounds_toArray, List.set_cons_zero, List.set_cons_succ, i64_w, i32_w]
               rfl
              exact norm_ (by simp only [putAll, Act.put, List.setIfInBounds_toArray, List.set_cons_zero, List.set_cons_succ]; first | done | rfl) (hJ2_6 (v329, v335) _ ⟨(ra_ HO317.out), (ra_ HO320.out), (ra_ HO323.out), (ra_ HO326.out), (by (with_reducible repeat (first | apply Kd.S_alloc | apply Kd.S_drewN | apply Kd.S_drew)); exact Kd.S_mono HO330.out (fun _ hk => hk.2)), (by (with_reducible repeat (first | apply Kd.S_alloc | apply Kd.S_drewN | apply Kd.S_drew)); exact Kd.S_mono HO336.out (fun _ hk => hk.2)), bq_ BK308.out, bq_ BK309.out, bq_ BK310.out, bq_ BK327.out, (by repeat (first | (with_reducible first | exact HB.out | apply below_alloc | apply pw_below_drewN | apply below_drew1 | refine below_set ?_ GE308.out | refine below_set ?_ GE309.out | refine below_set ?_ GE310.out | refine below_set ?_ GE327.out) | exact HB.out))⟩)
             ·skip
              obtain ⟨Ao58, co58, eo58⟩ := Kd.S_slice HO330.out
              (first | subst eo58 | (injection eo58 with f1_ f2_ f3_; have f4_ := f1_.symm; have f5_ := f3_.symm; clear f1_ f2_ f3_; subst f4_; subst f5_))
              have hs59 : w57.cell? ⟨gb327, 5, none⟩ = some (.slice none 0 0) := (blk_cell BK327.out 5).trans rfl
              have hfs59 := blk_frozen BK327.out 5
              have hns59_0 := NB308_327.out
              have hns59_1 := NB309_327.out
              have hns59_2 := NB310_327.out
              have hms59_0 := NB327_308.out
              have hms59_1 := NB327_309.out
              have hms59_2 := NB327_310.out
              refine skip_ (w1 := ?_) (by rfl) rfl ?_ ?_
              rotate_left
              ·go_simp
               rfl
              refine hK.out _ _ trivial (fun hHeld => ?_)
              clear hK K
              exact norm_ (by simp only [putAll, Act.put, List.setIfInBounds_toArray, List.set_cons_zero, List.set_cons_succ]; first | done | rfl) (hJ2_8 (.slice Ao58 y328.length co58) _ ⟨(rm_ (Kd.R_types HO317.out BK327.out (by decide)) (fun _ hk => ⟨hk.1.1, ⟨hk.1.2.1, hk.1.2.2⟩⟩)), (rm_ (Kd.R_types HO320.out BK327.out (by decide)) (fun _ hk => ⟨hk.1.1, ⟨hk.1.2.1, hk.1.2.2⟩⟩)), (rm_ (Kd.R_types HO323.out BK327.out (by decide)) (fun _ hk => ⟨hk.1.1, ⟨hk.1.2.1, hk.1.2.2⟩⟩)), (rm_ (Kd.R_types HO326.out BK327.out (by decide)) (fun _ hk => ⟨hk.1.1, ⟨hk.1.2.1, hk.1.2.2⟩⟩)), (sm_ (Kd.S_types HO330.out BK327.out (by decide)) (fun _ hk => trivial)), (by (with_reducible repeat (first | refine blk_drewN ?_ _ | refine blk_drew ?_ | refine blk_alloc ?_ _)); refine blk_far ?_ NB308_327.out _; (with_reducible repeat (first | refine blk_drewN ?_ _ | refine blk_drew ?_ | refine blk_alloc ?_ _)); exact BK308.out), (by (with_reducible repeat (first | refine blk_drewN ?_ _ | refine blk_drew ?_ | refine blk_alloc ?_ _)); refine blk_far ?_ NB309_327.out _; (with_reducible repeat (first | refine blk_drewN ?_ _ | refine blk_drew ?_ | refine blk_alloc ?_ _)); exact BK309.out), (by (with_reducible repeat (first | refine blk_drewN ?_ _ | refine blk_drew ?_ | refine blk_alloc ?_ _)); refine blk_far ?_ NB310_327.out _; (with_reducible repeat (first | refine blk_drewN ?_ _ | refine blk_drew ?_ | refine blk_alloc ?_ _)); exact BK310.out), (by (with_reducible repeat (first | refine blk_drewN ?_ _ | refine blk_drew ?_ | refine blk_alloc ?_ _)); refine blk_put (cs := #[.int .i64 t313, .int .i64 t314, .slice Ao41 t315.length co41, .slice Ao40 t318.length co40, .slice Ao39 t321.length co39, .slice none 0 0, .slice none 0 0, .slice Ao38 y324.length co38, .slice none 0 0, .slice none 0 0, .int .i64 0]) ?_ 5 _ rfl; (with_reducible repeat (first | refine blk_drewN ?_ _ | refine blk_drew ?_ | refine blk_alloc ?_ _)); exact BK327.out), (by repeat (first | (with_reducible first | exact HB.out | apply below_alloc | apply pw_below_drewN | apply below_drew1 | refine below_set ?_ GE308.out | refine below_set ?_ GE309.out | refine below_set ?_ GE310.out | refine below_set ?_ GE327.out) | exact HB.out))⟩)
           ·skip
            rintro ⟨v332, v335⟩ w59 ⟨h0_, h1_, h2_, h3_, h4_, h5_, h6_, h7_, h8_, h9_, h10_⟩
            replace HO317 : Aside0 (Kd.R (Kd.int .i64) 3 w59 w.heap.size (fun k_ => some k_ ≠ (.slice Ao40 t318.length co40 : Value).ownBlock ∧ some k_ ≠ (.slice Ao39 t321.length co39 : Value).ownBlock ∧ some k_ ≠ (.slice Ao38 y324.length co38 : Value).ownBlock) (.slice Ao41 t315.length co41) t315) := ⟨h0_⟩
            replace HO320 : Aside0 (Kd.R (Kd.int .i64) 3 w59 w.heap.size (fun k_ => some k_ ≠ (.slice Ao41 t315.length co41 : Value).ownBlock ∧ some k_ ≠ (.slice Ao39 t321.length co39 : Value).ownBlock ∧ some k_ ≠ (.slice Ao38 y324.length co38 : Value).ownBlock) (.slice Ao40 t318.length co40) t318) := ⟨h1_⟩
            replace HO323 : Aside0 (Kd.R (Kd.int .i64) 3 w59 w.heap.size (fun k_ => some k_ ≠ (.slice Ao41 t315.length co41 : Value).ownBlock ∧ some k_ ≠ (.slice Ao40 t318.length co40 : Value).ownBlock ∧ some k_ ≠ (.slice Ao38 y324.length co38 : Value).ownBlock) (.slice Ao39 t321.length co39) t321) := ⟨h2_⟩
            replace HO326 : Aside0 (Kd.R (Kd.int .i64) 3 w59 w.heap.size (fun k_ => some k_ ≠ (.slice Ao41 t315.length co41 : Value).ownBlock ∧ some k_ ≠ (.slice Ao40 t318.length co40 : Value).ownBlock ∧ some k_ ≠ (.slice Ao39 t321.length co39 : Value).ownBlock) (.slice Ao38 y324.length co38) y324) := ⟨h3_⟩
            have HO333 : Aside0 (Kd.S (Kd.slice 79 k79) 61 w59 w.heap.size (fun k_ => some k_ ≠ (v335 : Value).ownBlock) v332 y331) := ⟨h4_⟩
            have HO336 : Aside0 (Kd.S (Kd.slice 79 k79) 61 w59 w.heap.size (fun k_ => some k_ ≠ (v332 : Value).ownBlock) v335 y334) := ⟨h5_⟩
            replace BK308 : Aside0 (w59.heap[gb308]? = some (.cells #[.int .i64 a0_0, .int .i64 a0_1, .slice A0_2 l0_2.length c0_2] 28 (0, 0))) := ⟨h6_⟩
            replace BK309 : Aside0 (w59.heap[gb309]? = some (.cells #[.slice A1_0 l1_0.length c1_0, .slice A1_1 l1_1.length c1_1] 32 (0, 0))) := ⟨h7_⟩
            replace BK310 : Aside0 (w59.heap[gb310]? = some (.cells #[.int .i64 0, .int .i64 0, .slice none 0 0, .slice none 0 0, .slice none 0 0, .slice none 0 0, .slice none 0 0, .slice none 0 0, .slice none 0 0, .slice none 0 0, .int .i64 0] 38 (0, 0))) := ⟨h8_⟩
            replace BK327 : Aside0 (w59.heap[gb327]? = some (.cells #[.int .i64 t313, .int .i64 t314, .slice Ao41 t315.length co41, .slice Ao40 t318.length co40, .slice Ao39 t321.length co39, .slice none 0 0, .slice none 0 0, .slice Ao38 y324.length co38, .slice none 0 0, .slice none 0 0, .int .i64 0] 38 (0, 0))) := ⟨h9_⟩
            replace HB : Aside0 (Below w.heap.size w w59) := ⟨h10_⟩
            clear h0_ h1_ h2_ h3_ h4_ h5_ h6_ h7_ h8_ h9_ h10_
            have hHeld := trivial
            refine norm_ (a' := ?_) ?_ ?_
            rotate_left
            ·simp only [putAll, Act.put, List.setIfInBounds_toArray, List.set_cons_zero, List.set_cons_succ]
             rfl
            refine one_ (i := 2) (N := some 26) (bt_ 13 127) rfl rfl (one_of HT_.out (by kernel_rfl)) (by decide) (fun K hK => ?_)
            refine Kd.S_make_step (Kd.slice 79 k79) _ 61 (by rfl) (N := 26) rfl 36 _ _ rfl ji11 rfl rfl Try.underlying36 (.slice none 0 0) 24 info61 rfl (by decide) (by omega) [] (ok := fun _ => True) (okp := fun _ => True) ⟨_, rfl, Kd.R_nil _ _ _ _ _⟩ (fun _ hk => hk) trivial (of_decide_eq_true dg_) (Nat.le_trans (Nat.mul_le_mul_right _ (of_decide_eq_true dg_ : ji11.toNat ≤ 11728124029610)) (by omega)) (Below.refl _ _) (Nat.le_refl _) ?_
            intro v329 w60 ho61 hb hg_ hnew_
            clear hg_ hnew_
            (first | rw [← Ny328.out] at ho61 | (simp only [Int.reduceToNat] at ho61; rw [← Ny328.out] at ho61))
            have n0_ := Aside0.mk (Kd.R_below (ra_ HO317.out) hb)
            have n1_ := Aside0.mk (Kd.R_below (ra_ HO320.out) hb)
            have n2_ := Aside0.mk (Kd.R_below (ra_ HO323.out) hb)
            have n3_ := Aside0.mk (Kd.R_below (ra_ HO326.out) hb)
            have n4_ := Aside0.mk (Kd.S_elder' (sa_ HO333.out) (Kd.S_base ho61) hb)
            have n5_ := Aside0.mk (Kd.S_elder' (sa_ HO336.out) (Kd.S_base ho61) hb)
            have n6_ := Aside0.mk (Kd.S_lower (Kd.S_new' (Kd.S_new' ho61 (sl_ HO333.out)) (sl_ HO336.out)) (bz_ HB.out))
            have n7_ := Aside0.mk (bk_ BK308.out hb)
            have n8_ := Aside0.mk (bk_ BK309.out hb)
            have n9_ := Aside0.mk (bk_ BK310.out hb)
            have n10_ := Aside0.mk (bk_ BK327.out hb)
            have n11_ := Aside0.mk (bs_ HB.out hb)
            clear HO317 HO320 HO323 HO326 HO333 HO336 BK308 BK309 BK310 BK327 HB
            have HO317 := n0_
            have HO320 := n1_
            have HO323 := n2_
            have HO326 := n3_
            have HO333 := n4_
            have HO336 := n5_
            have HO330 := n6_
            have BK308 := n7_
            have BK309 := n8_
            have BK310 := n9_
            have BK327 := n10_
            have HB := n11_
            clear n0_ n1_ n2_ n3_ n4_ n5_ n6_ n7_ n8_ n9_ n10_ n11_ hb ho61
            refine hK.out _ _ trivial (fun hHeld => ?_)
            clear hK K
            refine norm_ (a' := ?_) ?_ ?_
            rotate_left
            ·show Act.put _ (some 26) _ = _
             simp only [Act.put, List.setIfInBounds_toArray, List.set_cons_zero, List.set_cons_succ, i64_w, i32_w]
             rfl
            refine pu_ 7 31 (bt_ 13 255) HT_ ?_
            exact norm_ (by simp only [putAll, Act.put, List.setIfInBounds_toArray, List.set_cons_zero, List.set_cons_succ]; first | done | rfl) (hJ2_4_6 (v329, v332, v335) _ ⟨(ra_ HO317.out), (ra_ HO320.out), (ra_ HO323.out), (ra_ HO326.out), (by (with_reducible repeat (first | apply Kd.S_alloc | apply Kd.S_drewN | apply Kd.S_drew)); exact Kd.S_mono HO330.out (fun _ hk => ⟨hk.1.2, hk.2⟩)), (by (with_reducible repeat (first | apply Kd.S_alloc | apply Kd.S_drewN | apply Kd.S_drew)); exact Kd.S_mono HO333.out (fun _ hk => ⟨hk.2, hk.1⟩)), (by (with_reducible repeat (first | apply Kd.S_alloc | apply Kd.S_drewN | apply Kd.S_drew)); exact Kd.S_mono HO336.out (fun _ hk => ⟨hk.2, hk.1⟩)), bq_ BK308.out, bq_ BK309.out, bq_ BK310.out, bq_ BK327.out, (by repeat (first | (with_reducible first | exact HB.out | apply below_alloc | apply pw_below_drewN | apply below_drew1 | refine below_set ?_ GE308.out | refine below_set ?_ GE309.out | refine below_set ?_ GE310.out | refine below_set ?_ GE327.out) | exact HB.out))⟩)
          ·skip
           rintro v329 w59 ⟨h0_, h1_, h2_, h3_, h4_, h5_, h6_, h7_, h8_, h9_⟩
           replace HO317 : Aside0 (Kd.R (Kd.int .i64) 3 w59 w.heap.size (fun k_ => some k_ ≠ (.slice Ao40 t318.length co40 : Value).ownBlock ∧ some k_ ≠ (.slice Ao39 t321.length co39 : Value).ownBlock ∧ some k_ ≠ (.slice Ao38 y324.length co38 : Value).ownBlock) (.slice Ao41 t315.length co41) t315) := ⟨h0_⟩
           replace HO320 : Aside0 (Kd.R (Kd.int .i64) 3 w59 w.heap.size (fun k_ => some k_ ≠ (.slice Ao41 t315.length co41 : Value).ownBlock ∧ some k_ ≠ (.slice Ao39 t321.length co39 : Value).ownBlock ∧ some k_ ≠ (.slice Ao38 y324.length co38 : Value).ownBlock) (.slice Ao40 t318.length co40) t318) := ⟨h1_⟩
           replace HO323 : Aside0 (Kd.R (Kd.int .i64) 3 w59 w.heap.size (fun k_ => some k_ ≠ (.slice Ao41 t315.length co41 : Value).ownBlock ∧ some k_ ≠ (.slice Ao40 t318.length co40 : Value).ownBlock ∧ some k_ ≠ (.slice Ao38 y324.length co38 : Value).ownBlock) (.slice Ao39 t321.length co39) t321) := ⟨h2_⟩
           replace HO326 : Aside0 (Kd.R (Kd.int .i64) 3 w59 w.heap.size (fun k_ => some k_ ≠ (.slice Ao41 t315.length co41 : Value).ownBlock ∧ some k_ ≠ (.slice Ao40 t318.length co40 : Value).ownBlock ∧ some k_ ≠ (.slice Ao39 t321.length co39 : Value).ownBlock) (.slice Ao38 y324.length co38) y324) := ⟨h3_⟩
           have HO330 : Aside0 (Kd.S (Kd.slice 79 k79) 61 w59 w.heap.size (fun _ => True) v329 y328) := ⟨h4_⟩
           replace BK308 : Aside0 (w59.heap[gb308]? = some (.cells #[.int .i64 a0_0, .int .i64 a0_1, .slice A0_2 l0_2.length c0_2] 28 (0, 0))) := ⟨h5_⟩
           replace BK309 : Aside0 (w59.heap[gb309]? = some (.cells #[.slice A1_0 l1_0.length c1_0, .slice A1_1 l1_1.length c1_1] 32 (0, 0))) := ⟨h6_⟩
           replace BK310 : Aside0 (w59.heap[gb310]? = some (.cells #[.int .i64 0, .int .i64 0, .slice none 0 0, .slice none 0 0, .slice none 0 0, .slice none 0 0, .slice none 0 0, .slice none 0 0, .slice none 0 0, .slice none 0 0, .int .i64 0] 38 (0, 0))) := ⟨h7_⟩
           replace BK327 : Aside0 (w59.heap[gb327]? = some (.cells #[.int .i64 t313, .int .i64 t314, .slice Ao41 t315.length co41, .slice Ao40 t318.length co40, .slice Ao39 t321.length co39, v329, .slice none 0 0, .slice Ao38 y324.length co38, .slice none 0 0, .slice none 0 0, .int .i64 0] 38 (0, 0))) := ⟨h8_⟩
           replace HB : Aside0 (Below w.heap.size w w59) := ⟨h9_⟩
           clear h0_ h1_ h2_ h3_ h4_ h5_ h6_ h7_ h8_ h9_
           have hHeld := trivial
           refine norm_ (a' := ?_) ?_ ?_
           rotate_left
           ·simp only [putAll, Act.put, List.setIfInBounds_toArray, List.set_cons_zero, List.set_cons_succ]
            rfl
           refine two_ (i := 4) (j := 6) (Ni := some 28) (Nj := some 30) #[true, true, true, true, true, true, false, true, true, false, false, false, false] #[true, true, true, true, false, true, true, true, true, false, false, false, false] rfl rfl rfl rfl (two_of HT_.out (by kernel_rfl)) (by decide) (by decide) (fun K hK => ?_) (fun K hK => ?_)
           ·skip
            refine Kd.S_make_step (Kd.slice 79 k79) _ 61 (by rfl) (N := 28) rfl 36 _ _ rfl t312 rfl rfl Try.underlying36 (.slice none 0 0) 24 info61 rfl (by decide) (by omega) [] (ok := fun _ => True) (okp := fun _ => True) ⟨_, rfl, Kd.R_nil _ _ _ _ _⟩ (fun _ hk => hk) trivial (of_decide_eq_true dg_) (Nat.le_trans (Nat.mul_le_mul_right _ (of_decide_eq_true dg_ : t312.toNat ≤ 11728124029610)) (by omega)) (Below.refl _ _) (Nat.le_refl _) ?_
            intro v332 w60 ho61 hb hg_ hnew_
            clear hg_ hnew_
            (first | rw [← Ny331.out] at ho61 | (simp only [Int.reduceToNat] at ho61; rw [← Ny331.out] at ho61))
            have n0_ := Aside0.mk (Kd.R_below (ra_ HO317.out) hb)
            have n1_ := Aside0.mk (Kd.R_below (ra_ HO320.out) hb)
            have n2_ := Aside0.mk (Kd.R_below (ra_ HO323.out) hb)
            have n3_ := Aside0.mk (Kd.R_below (ra_ HO326.out) hb)
            have n4_ := Aside0.mk (Kd.S_elder' (sa_ HO330.out) (Kd.S_base ho61) hb)
            have n5_ := Aside0.mk (Kd.S_lower (Kd.S_new' ho61 (sl_ HO330.out)) (bz_ HB.out))
            have n6_ := Aside0.mk (bk_ BK308.out hb)
            have n7_ := Aside0.mk (bk_ BK309.out hb)
            have n8_ := Aside0.mk (bk_ BK310.out hb)
            have n9_ := Aside0.mk (bk_ BK327.out hb)
            have n10_ := Aside0.mk (bs_ HB.out hb)
            clear HO317 HO320 HO323 HO326 HO330 BK308 BK309 BK310 BK327 HB
            have HO317 := n0_
            have HO320 := n1_
            have HO323 := n2_
            have HO326 := n3_
            have HO330 := n4_
            have HO333 := n5_
            have BK308 := n6_
            have BK309 := n7_
            have BK310 := n8_
            have BK327 := n9_
            have HB := n10_
            clear n0_ n1_ n2_ n3_ n4_ n5_ n6_ n7_ n8_ n9_ n10_ hb ho61
            refine hK.out _ _ trivial (fun hHeld => ?_)
            clear hK K
            refine norm_ (a' := ?_) ?_ ?_
            rotate_left
            ·show Act.put _ (some 28) _ = _
             simp only [Act.put, List.setIfInBounds_toArray, List.set_cons_zero, List.set_cons_succ, i64_w, i32_w]
             rfl
            refine pu_ 9 32 (bt_ 13 959) HT_ ?_
            exact norm_ (by simp only [putAll, Act.put, List.setIfInBounds_toArray, List.set_cons_zero, List.set_cons_succ]; first | done | rfl) (hJ2_4_8 (v329, v332) _ ⟨(ra_ HO317.out), (ra_ HO320.out), (ra_ HO323.out), (ra_ HO326.out), (by (with_reducible repeat (first | apply Kd.S_alloc | apply Kd.S_drewN | apply Kd.S_drew)); exact Kd.S_mono HO330.out (fun _ hk => hk.2)), (by (with_reducible repeat (first | apply Kd.S_alloc | apply Kd.S_drewN | apply Kd.S_drew)); exact Kd.S_mono HO333.out (fun _ hk => hk.2)), bq_ BK308.out, bq_ BK309.out, bq_ BK310.out, bq_ BK327.out, (by repeat (first | (with_reducible first | exact HB.out | apply below_alloc | apply pw_below_drewN | apply below_drew1 | refine below_set ?_ GE308.out | refine below_set ?_ GE309.out | refine below_set ?_ GE310.out | refine below_set ?_ GE327.out) | exact HB.out))⟩)
           ·skip
            refine Kd.S_make_step (Kd.slice 79 k79) _ 61 (by rfl) (N := 30) rfl 36 _ _ rfl t312 rfl rfl Try.underlying36 (.slice none 0 0) 24 info61 rfl (by decide) (by omega) [] (ok := fun _ => True) (okp := fun _ => True) ⟨_, rfl, Kd.R_nil _ _ _ _ _⟩ (fun _ hk => hk) trivial (of_decide_eq_true dg_) (Nat.le_trans (Nat.mul_le_mul_right _ (of_decide_eq_true dg_ : t312.toNat ≤ 11728124029610)) (by omega)) (Below.refl _ _) (Nat.le_refl _) ?_
            intro v335 w60 ho61 hb hg_ hnew_
            clear hg_ hnew_
            (first | rw [← Ny334.out] at ho61 | (simp only [Int.reduceToNat] at ho61; rw [← Ny334.out] at ho61))
            have n0_ := Aside0.mk (Kd.R_below (ra_ HO317.out) hb)
            have n1_ := Aside0.mk (Kd.R_below (ra_ HO320.out) hb)
            have n2_ := Aside0.mk (Kd.R_below (ra_ HO323.out) hb)
            have n3_ := Aside0.mk (Kd.R_below (ra_ HO326.out) hb)
            have n4_ := Aside0.mk (Kd.S_elder' (sa_ HO330.out) (Kd.S_base ho61) hb)
            have n5_ := Aside0.mk (Kd.S_lower (Kd.S_new' ho61 (sl_ HO330.out)) (bz_ HB.out))
            have n6_ := Aside0.mk (bk_ BK308.out hb)
            have n7_ := Aside0.mk (bk_ BK309.out hb)
            have n8_ := Aside0.mk (bk_ BK310.out hb)
            have n9_ := Aside0.mk (bk_ BK327.out hb)
            have n10_ := Aside0.mk (bs_ HB.out hb)
            clear HO317 HO320 HO323 HO326 HO330 BK308 BK309 BK310 BK327 HB
            have HO317 := n0_
            have HO320 := n1_
            have HO323 := n2_
            have HO326 := n3_
            have HO330 := n4_
            have HO336 := n5_
            have BK308 := n6_
            have BK309 := n7_
            have BK310 := n8_
            have BK327 := n9_
            have HB := n10_
            clear n0_ n1_ n2_ n3_ n4_ n5_ n6_ n7_ n8_ n9_ n10_ hb ho61
            refine hK.out _ _ trivial (fun hHeld => ?_)
            clear hK K
            refine norm_ (a' := ?_) ?_ ?_
            rotate_left
            ·show Act.put _ (some 30) _ = _
             simp only [Act.put, List.setIfInBounds_toArray, List.set_cons_zero, List.set_cons_succ, i64_w, i32_w]
             rfl
            exact norm_ (by simp only [putAll, Act.put, List.setIfInBounds_toArray, List.set_cons_zero, List.set_cons_succ]; first | done | rfl) (hJ2_6_8 (v329, v335) _ ⟨(ra_ HO317.out), (ra_ HO320.out), (ra_ HO323.out), (ra_ HO326.out), (by (with_reducible repeat (first | apply Kd.S_alloc | apply Kd.S_drewN | apply Kd.S_drew)); exact Kd.S_mono HO330.out (fun _ hk => hk.2)), (by (with_reducible repeat (first | apply Kd.S_alloc | apply Kd.S_drewN | apply Kd.S_drew)); exact Kd.S_mono HO336.out (fun _ hk => hk.2)), bq_ BK308.out, bq_ BK309.out, bq_ BK310.out, bq_ BK327.out, (by repeat (first | (with_reducible first | exact HB.out | apply below_alloc | apply pw_below_drewN | apply below_drew1 | refine below_set ?_ GE308.out | refine below_set ?_ GE309.out | refine below_set ?_ GE310.out | refine below_set ?_ GE327.out) | exact HB.out))⟩)
         ·skip
          rintro ⟨v329, v335⟩ w59 ⟨h0_, h1_, h2_, h3_, h4_, h5_, h6_, h7_, h8_, h9_, h10_⟩
          replace HO317 : Aside0 (Kd.R (Kd.int .i64) 3 w59 w.heap.size (fun k_ => some k_ ≠ (.slice Ao40 t318.length co40 : Value).ownBlock ∧ some k_ ≠ (.slice Ao39 t321.length co39 : Value).ownBlock ∧ some k_ ≠ (.slice Ao38 y324.length co38 : Value).ownBlock) (.slice Ao41 t315.length co41) t315) := ⟨h0_⟩
          replace HO320 : Aside0 (Kd.R (Kd.int .i64) 3 w59 w.heap.size (fun k_ => some k_ ≠ (.slice Ao41 t315.length co41 : Value).ownBlock ∧ some k_ ≠ (.slice Ao39 t321.length co39 : Value).ownBlock ∧ some k_ ≠ (.slice Ao38 y324.length co38 : Value).ownBlock) (.slice Ao40 t318.length co40) t318) := ⟨h1_⟩
          replace HO323 : Aside0 (Kd.R (Kd.int .i64) 3 w59 w.heap.size (fun k_ => some k_ ≠ (.slice Ao41 t315.length co41 : Value).ownBlock ∧ some k_ ≠ (.slice Ao40 t318.length co40 : Value).ownBlock ∧ some k_ ≠ (.slice Ao38 y324.length co38 : Value).ownBlock) (.slice Ao39 t321.length co39) t321) := ⟨h2_⟩
          replace HO326 : Aside0 (Kd.R (Kd.int .i64) 3 w59 w.heap.size (fun k_ => some k_ ≠ (.slice Ao41 t315.length co41 : Value).ownBlock ∧ some k_ ≠ (.slice Ao40 t318.length co40 : Value).ownBlock ∧ some k_ ≠ (.slice Ao39 t321.length co39 : Value).ownBlock) (.slice Ao38 y324.length co38) y324) := ⟨h3_⟩
          have HO330 : Aside0 (Kd.S (Kd.slice 79 k79) 61 w59 w.heap.size (fun k_ => some k_ ≠ (v335 : Value).ownBlock) v329 y328) := ⟨h4_⟩
          have HO336 : Aside0 (Kd.S (Kd.slice 79 k79) 61 w59 w.heap.size (fun k_ => some k_ ≠ (v329 : Value).ownBlock) v335 y334) := ⟨h5_⟩
          replace BK308 : Aside0 (w59.heap[gb308]? = some (.cells #[.int .i64 a0_0, .int .i64 a0_1, .slice A0_2 l0_2.length c0_2] 28 (0, 0))) := ⟨h6_⟩
          replace BK309 : Aside0 (w59.heap[gb309]? = some (.cells #[.slice A1_0 l1_0.length c1_0, .slice A1_1 l1_1.length c1_1] 32 (0, 0))) := ⟨h7_⟩
          replace BK310 : Aside0 (w59.heap[gb310]? = some (.cells #[.int .i64 0, .int .i64 0, .slice none 0 0, .slice none 0 0, .slice none 0 0, .slice none 0 0, .slice none 0 0, .slice none 0 0, .slice none 0 0, .slice none 0 0, .int .i64 0] 38 (0, 0))) := ⟨h8_⟩
          replace BK327 : Aside0 (w59.heap[gb327]? = some (.cells #[.int .i64 t313, .int .i64 t314, .slice Ao41 t315.length co41, .slice Ao40 t318.length co40, .slice Ao39 t321.length co39, .slice none 0 0, .slice none 0 0, .slice Ao38 y324.length co38, .slice none 0 0, .slice none 0 0, .int .i64 0] 38 (0, 0))) := ⟨h9_⟩
          replace HB : Aside0 (Below w.heap.size w w59) := ⟨h10_⟩
          clear h0_ h1_ h2_ h3_ h4_ h5_ h6_ h7_ h8_ h9_ h10_
          have hHeld := trivial
          refine norm_ (a' := ?_) ?_ ?_
          rotate_left
          ·simp only [putAll, Act.put, List.setIfInBounds_toArray, List.set_cons_zero, List.set_cons_succ]
           rfl
          refine two_ (i := 4) (j := 8) (Ni := some 28) (Nj := none) #[true, true, true, true, true, true, true, true, false, false, false, false, false] #[true, true, true, true, false, true, true, true, true, false, false, false, false] rfl rfl rfl rfl (two_of HT_.out (by kernel_rfl)) (by decide) (by decide) (fun K hK => ?_) (fun K hK => ?_)
          ·skip
           refine Kd.S_make_step (Kd.slice 79 k79) _ 61 (by rfl) (N := 28) rfl 36 _ _ rfl t312 rfl rfl Try.underlying36 (.slice none 0 0) 24 info61 rfl (by decide) (by omega) [] (ok := fun _ => True) (okp := fun _ => True) ⟨_, rfl, Kd.R_nil _ _ _ _ _⟩ (fun _ hk => hk) trivial (of_decide_eq_true dg_) (Nat.le_trans (Nat.mul_le_mul_right _ (of_decide_eq_true dg_ : t312.toNat ≤ 11728124029610)) (by omega)) (Below.refl _ _) (Nat.le_refl _) ?_
           intro v332 w60 ho61 hb hg_ hnew_
           clear hg_ hnew_
           (first | rw [← Ny331.out] at ho61 | (simp only [Int.reduceToNat] at ho61; rw [← Ny331.out] at ho61))
           have n0_ := Aside0.mk (Kd.R_below (ra_ HO317.out) hb)
           have n1_ := Aside0.mk (Kd.R_below (ra_ HO320.out) hb)
           have n2_ := Aside0.mk (Kd.R_below (ra_ HO323.out) hb)
           have n3_ := Aside0.mk (Kd.R_below (ra_ HO326.out) hb)
           have n4_ := Aside0.mk (Kd.S_elder' (sa_ HO330.out) (Kd.S_base ho61) hb)
           have n5_ := Aside0.mk (Kd.S_elder' (sa_ HO336.out) (Kd.S_base ho61) hb)
           have n6_ := Aside0.mk (Kd.S_lower (Kd.S_new' (Kd.S_new' ho61 (sl_ HO330.out)) (sl_ HO336.out)) (bz_ HB.out))
           have n7_ := Aside0.mk (bk_ BK308.out hb)
           have n8_ := Aside0.mk (bk_ BK309.out hb)
           have n9_ := Aside0.mk (bk_ BK310.out hb)
           have n10_ := Aside0.mk (bk_ BK327.out hb)
           have n11_ := Aside0.mk (bs_ HB.out hb)
           clear HO317 HO320 HO323 HO326 HO330 HO336 BK308 BK309 BK310 BK327 HB
           have HO317 := n0_
           have HO320 := n1_
           have HO323 := n2_
           have HO326 := n3_
           have HO330 := n4_
           have HO336 := n5_
           have HO333 := n6_
           have BK308 := n7_
           have BK309 := n8_
           have BK310 := n9_
           have BK327 := n10_
           have HB := n11_
           clear n0_ n1_ n2_ n3_ n4_ n5_ n6_ n7_ n8_ n9_ n10_ n11_ hb ho61
           refine hK.out _ _ trivial (fun hHeld => ?_)
           clear hK K
           refine norm_ (a' := ?_) ?_ ?_
           rotate_left
           ·show Act.put _ (some 28) _ = _
            simp only [Act.put, List.setIfInBounds_toArray, List.set_cons_zero, List.set_cons_succ, i64_w, i32_w]
            rfl
           exact norm_ (by simp only [putAll, Act.put, List.setIfInBounds_toArray, List.set_cons_zero, List.set_cons_succ]; first | done | rfl) (hJ2_4_6 (v329, v332, v335) _ ⟨(ra_ HO317.out), (ra_ HO320.out), (ra_ HO323.out), (ra_ HO326.out), (by (with_reducible repeat (first | apply Kd.S_alloc | apply Kd.S_drewN | apply Kd.S_drew)); exact Kd.S_mono HO330.out (fun _ hk => ⟨hk.2, hk.1⟩)), (by (with_reducible repeat (first | apply Kd.S_alloc | apply Kd.S_drewN | apply Kd.S_drew)); exact Kd.S_mono HO333.out (fun _ hk => ⟨hk.1.2, hk.2⟩)), (sa_ HO336.out), bq_ BK308.out, bq_ BK309.out, bq_ BK310.out, bq_ BK327.out, (by repeat (first | (with_reducible first | exact HB.out | apply below_alloc | apply pw_below_drewN | apply below_drew1 | refine below_set ?_ GE308.out | refine below_set ?_ GE309.out | refine below_set ?_ GE310.out | refine below_set ?_ GE327.out) | exact HB.out))⟩)
          ·skip
           obtain ⟨Ao60, co60, eo60⟩ := Kd.S_slice HO330.out
           (first | subst eo60 | (injection eo60 with f1_ f2_ f3_; have f4_ := f1_.symm; have f5_ := f3_.symm; clear f1_ f2_ f3_; subst f4_; subst f5_))
           have hs61 : w59.cell? ⟨gb327, 5, none⟩ = some (.slice none 0 0) := (blk_cell BK327.out 5).trans rfl
           have hfs61 := blk_frozen BK327.out 5
           have hns61_0 := NB308_327.out
           have hns61_1 := NB309_327.out
           have hns61_2 := NB310_327.out
           have hms61_0 := NB327_308.out
           have hms61_1 := NB327_309.out
           have hms61_2 := NB327_310.out
           refine skip_ (w1 := ?_) (by rfl) rfl ?_ ?_
           rotate_left
           ·go_simp
            rfl
           refine hK.out _ _ trivial (fun hHeld => ?_)
           clear hK K
           exact norm_ (by simp only [putAll, Act.put, List.setIfInBounds_toArray, List.set_cons_zero, List.set_cons_succ]; first | done | rfl) (hJ2_6_8 (.slice Ao60 y328.length co60, v335) _ ⟨(rm_ (Kd.R_types HO317.out BK327.out (by decide)) (fun _ hk => ⟨hk.1.1, ⟨hk.1.2.1, hk.1.2.2⟩⟩)), (rm_ (Kd.R_types HO320.out BK327.out (by decide)) (fun _ hk => ⟨hk.1.1, ⟨hk.1.2.1, hk.1.2.2⟩⟩)), (rm_ (Kd.R_types HO323.out BK327.out (by decide)) (fun _ hk => ⟨hk.1.1, ⟨hk.1.2.1, hk.1.2.2⟩⟩)), (rm_ (Kd.R_types HO326.out BK327.out (by decide)) (fun _ hk => ⟨hk.1.1, ⟨hk.1.2.1, hk.1.2.2⟩⟩)), (sm_ (Kd.S_types HO330.out BK327.out (by decide)) (fun _ hk => hk.1)), (sm_ (Kd.S_types HO336.out BK327.out (by decide)) (fun _ hk => hk.1)), (by (with_reducible repeat (first | refine blk_drewN ?_ _ | refine blk_drew ?_ | refine blk_alloc ?_ _)); refine blk_far ?_ NB308_327.out _; (with_reducible repeat (first | refine blk_drewN ?_ _ | refine blk_drew ?_ | refine blk_alloc ?_ _)); exact BK308.out), (by (with_reducible repeat (first | refine blk_drewN ?_ _ | refine blk_drew ?_ | refine blk_alloc ?_ _)); refine blk_far ?_ NB309_327.out _; (with_reducible repeat (first | refine blk_drewN ?_ _ | refine blk_drew ?_ | refine blk_alloc ?_ _)); exact BK309.out), (by (with_reducible repeat (first | refine blk_drewN ?_ _ | refine blk_drew ?_ | refine blk_alloc ?_ _)); refine blk_far ?_ NB310_327.out _; (with_reducible repeat (first | refine blk_drewN ?_ _ | refine blk_drew ?_ | refine blk_alloc ?_ _)); exact BK310.out), (by (with_reducible repeat (first | refine blk_drewN ?_ _ | refine blk_drew ?_ | refine blk_alloc ?_ _)); refine blk_put (cs := #[.int .i64 t313, .int .i64 t314, .slice Ao41 t315.length co41, .slice Ao40 t318.length co40, .slice Ao39 t321.length co39, .slice none 0 0, .slice none 0 0, .slice Ao38 y324.length co38, .slice none 0 0, .slice none 0 0, .int .i64 0]) ?_ 5 _ rfl; (with_reducible repeat (first | refine blk_drewN ?_ _ | refine blk_drew ?_ | refine blk_alloc ?_ _)); exact BK327.out), (by repeat (first | (with_reducible first | exact HB.out | apply below_alloc | apply pw_below_drewN | apply below_drew1 | refine below_set ?_ GE308.out | refine below_set ?_ GE309.out | refine below_set ?_ GE310.out | refine below_set ?_ GE327.out) | exact HB.out))⟩)
        ·skip
         rintro ⟨v329, v332⟩ w59 ⟨h0_, h1_, h2_, h3_, h4_, h5_, h6_, h7_, h8_, h9_, h10_⟩
         replace HO317 : Aside0 (Kd.R (Kd.int .i64) 3 w59 w.heap.size (fun k_ => some k_ ≠ (.slice Ao40 t318.length co40 : Value).ownBlock ∧ some k_ ≠ (.slice Ao39 t321.length co39 : Value).ownBlock ∧ some k_ ≠ (.slice Ao38 y324.length co38 : Value).ownBlock) (.slice Ao41 t315.length co41) t315) := ⟨h0_⟩
         replace HO320 : Aside0 (Kd.R (Kd.int .i64) 3 w59 w.heap.size (fun k_ => some k_ ≠ (.slice Ao41 t315.length co41 : Value).ownBlock ∧ some k_ ≠ (.slice Ao39 t321.length co39 : Value).ownBlock ∧ some k_ ≠ (.slice Ao38 y324.length co38 : Value).ownBlock) (.slice Ao40 t318.length co40) t318) := ⟨h1_⟩
         replace HO323 : Aside0 (Kd.R (Kd.int .i64) 3 w59 w.heap.size (fun k_ => some k_ ≠ (.slice Ao41 t315.length co41 : Value).ownBlock ∧ some k_ ≠ (.slice Ao40 t318.length co40 : Value).ownBlock ∧ some k_ ≠ (.slice Ao38 y324.length co38 : Value).ownBlock) (.slice Ao39 t321.length co39) t321) := ⟨h2_⟩
         replace HO326 : Aside0 (Kd.R (Kd.int .i64) 3 w59 w.heap.size (fun k_ => some k_ ≠ (.slice Ao41 t315.length co41 : Value).ownBlock ∧ some k_ ≠ (.slice Ao40 t318.length co40 : Value).ownBlock ∧ some k_ ≠ (.slice Ao39 t321.length co39 : Value).ownBlock) (.slice Ao38 y324.length co38) y324) := ⟨h3_⟩
         have HO330 : Aside0 (Kd.S (Kd.slice 79 k79) 61 w59 w.heap.size (fun k_ => some k_ ≠ (v332 : Value).ownBlock) v329 y328) := ⟨h4_⟩
         have HO333 : Aside0 (Kd.S (Kd.slice 79 k79) 61 w59 w.heap.size (fun k_ => some k_ ≠ (v329 : Value).ownBlock) v332 y331) := ⟨h5_⟩
         replace BK308 : Aside0 (w59.heap[gb308]? = some (.cells #[.int .i64 a0_0, .int .i64 a0_1, .slice A0_2 l0_2.length c0_2] 28 (0, 0))) := ⟨h6_⟩
         replace BK309 : Aside0 (w59.heap[gb309]? = some (.cells #[.slice A1_0 l1_0.length c1_0, .slice A1_1 l1_1.length c1_1] 32 (0, 0))) := ⟨h7_⟩
         replace BK310 : Aside0 (w59.heap[gb310]? = some (.cells #[.int .i64 0, .int .i64 0, .slice none 0 0, .slice none 0 0, .slice none 0 0, .slice none 0 0, .slice none 0 0, .slice none 0 0, .slice none 0 0, .slice none 0 0, .int .i64 0] 38 (0, 0))) := ⟨h8_⟩
         replace BK327 : Aside0 (w59.heap[gb327]? = some (.cells #[.int .i64 t313, .int .i64 t314, .slice Ao41 t315.length co41, .slice Ao40 t318.length co40, .slice Ao39 t321.length co39, .slice none 0 0, .slice none 0 0, .slice Ao38 y324.length co38, .slice none 0 0, .slice none 0 0, .int .i64 0] 38 (0, 0))) := ⟨h9_⟩
         replace HB : Aside0 (Below w.heap.size w w59) := ⟨h10_⟩
         clear h0_ h1_ h2_ h3_ h4_ h5_ h6_ h7_ h8_ h9_ h10_
         have hHeld := trivial
         refine norm_ (a' := ?_) ?_ ?_
         rotate_left
         ·simp only [putAll, Act.put, List.setIfInBounds_toArray, List.set_cons_zero, List.set_cons_succ]
          rfl
         refine two_ (i := 6) (j := 8) (Ni := some 30) (Nj := none) #[true, true, true, true, true, true, true, true, false, false, false, false, false] #[true, true, true, true, true, true, false, true, true, false, false, false, false] rfl rfl rfl rfl (two_of HT_.out (by kernel_rfl)) (by decide) (by decide) (fun K hK => ?_) (fun K hK => ?_)
         ·skip
          refine Kd.S_make_step (Kd.slice 79 k79) _ 61 (by rfl) (N := 30) rfl 36 _ _ rfl t312 rfl rfl Try.underlying36 (.slice none 0 0) 24 info61 rfl (by decide) (by omega) [] (ok := fun _ => True) (okp := fun _ => True) ⟨_, rfl, Kd.R_nil _ _ _ _ _⟩ (fun _ hk => hk) trivial (of_decide_eq_true dg_) (Nat.le_trans (Nat.mul_le_mul_right _ (of_decide_eq_true dg_ : t312.toNat ≤ 11728124029610)) (by omega)) (Below.refl _ _) (Nat.le_refl _) ?_
          intro v335 w60 ho61 hb hg_ hnew_
          clear hg_ hnew_
          (first | rw [← Ny334.out] at ho61 | (simp only [Int.reduceToNat] at ho61; rw [← Ny334.out] at ho61))
          have n0_ := Aside0.mk (Kd.R_below (ra_ HO317.out) hb)
          have n1_ := Aside0.mk (Kd.R_below (ra_ HO320.out) hb)
          have n2_ := Aside0.mk (Kd.R_below (ra_ HO323.out) hb)
          have n3_ := Aside0.mk (Kd.R_below (ra_ HO326.out) hb)
          have n4_ := Aside0.mk (Kd.S_elder' (sa_ HO330.out) (Kd.S_base ho61) hb)
          have n5_ := Aside0.mk (Kd.S_elder' (sa_ HO333.out) (Kd.S_base ho61) hb)
          have n6_ := Aside0.mk (Kd.S_lower (Kd.S_new' (Kd.S_new' ho61 (sl_ HO330.out)) (sl_ HO333.out)) (bz_ HB.out))
          have n7_ := Aside0.mk (bk_ BK308.out hb)
          have n8_ := Aside0.mk (bk_ BK309.out hb)
          have n9_ := Aside0.mk (bk_ BK310.out hb)
          have n10_ := Aside0.mk (bk_ BK327.out hb)
          have n11_ := Aside0.mk (bs_ HB.out hb)
          clear HO317 HO320 HO323 HO326 HO330 HO333 BK308 BK309 BK310 BK327 HB
          have HO317 := n0_
          have HO320 := n1_
          have HO323 := n2_
          have HO326 := n3_
          have HO330 := n4_
          have HO333 := n5_
          have HO336 := n6_
          have BK308 := n7_
          have BK309 := n8_
          have BK310 := n9_
          have BK327 := n10_
          have HB := n11_
          clear n0_ n1_ n2_ n3_ n4_ n5_ n6_ n7_ n8_ n9_ n10_ n11_ hb ho61
          refine hK.out _ _ trivial (fun hHeld => ?_)
          clear hK K
          refine norm_ (a' := ?_) ?_ ?_
          rotate_left
          ·show Act.put _ (some 30) _ = _
           simp only [Act.put, List.setIfInBounds_toArray, List.set_cons_zero, List.set_cons_succ, i64_w, i32_w]
           rfl
          exact norm_ (by simp only [putAll, Act.put, List.setIfInBounds_toArray, List.set_cons_zero, List.set_cons_succ]; first | done | rfl) (hJ2_4_6 (v329, v332, v335) _ ⟨(ra_ HO317.out), (ra_ HO320.out), (ra_ HO323.out), (ra_ HO326.out), (sa_ HO330.out), (sa_ HO333.out), (by (with_reducible repeat (first | apply Kd.S_alloc | apply Kd.S_drewN | apply Kd.S_drew)); exact Kd.S_mono HO336.out (fun _ hk => ⟨hk.1.2, hk.2⟩)), bq_ BK308.out, bq_ BK309.out, bq_ BK310.out, bq_ BK327.out, (by repeat (first | (with_reducible first | exact HB.out | apply below_alloc | apply pw_below_drewN | apply below_drew1 | refine below_set ?_ GE308.out | refine below_set ?_ GE309.out | refine below_set ?_ GE310.out | refine below_set ?_ GE327.out) | exact HB.out))⟩)
         ·skip
          obtain ⟨Ao60, co60, eo60⟩ := Kd.S_slice HO330.out
          (first | subst eo60 | (injection eo60 with f1_ f2_ f3_; have f4_ := f1_.symm; have f5_ := f3_.symm; clear f1_ f2_ f3_; subst f4_; subst f5_))
          have hs61 : w59.cell? ⟨gb327, 5, none⟩ = some (.slice none 0 0) := (blk_cell BK327.out 5).trans rfl
          have hfs61 := blk_frozen BK327.out 5
          have hns61_0 := NB308_327.out
          have hns61_1 := NB309_327.out
          have hns61_2 := NB310_327.out
          have hms61_0 := NB327_308.out
          have hms61_1 := NB327_309.out
          have hms61_2 := NB327_310.out
          refine skip_ (w1 := ?_) (by rfl) rfl ?_ ?_
          rotate_left
          ·go_simp
           rfl
          refine hK.out _ _ trivial (fun hHeld => ?_)
          clear hK K
          refine pu_ 9 32 (bt_ 13 959) HT_ ?_
          exact norm_ (by simp only [putAll, Act.put, List.setIfInBounds_toArray, List.set_cons_zero, List.set_cons_succ]; first | done | rfl) (hJ2_4_8 (.slice Ao60 y328.length co60, v332) _ ⟨(rm_ (Kd.R_types HO317.out BK327.out (by decide)) (fun _ hk => ⟨hk.1.1, ⟨hk.1.2.1, hk.1.2.2⟩⟩)), (rm_ (Kd.R_types HO320.out BK327.out (by decide)) (fun _ hk => ⟨hk.1.1, ⟨hk.1.2.1, hk.1.2.2⟩⟩)), (rm_ (Kd.R_types HO323.out BK327.out (by decide)) (fun _ hk => ⟨hk.1.1, ⟨hk.1.2.1, hk.1.2.2⟩⟩)), (rm_ (Kd.R_types HO326.out BK327.out (by decide)) (fun _ hk => ⟨hk.1.1, ⟨hk.1.2.1, hk.1.2.2⟩⟩)), (sm_ (Kd.S_types HO330.out BK327.out (by decide)) (fun _ hk => hk.1)), (sm_ (Kd.S_types HO333.out BK327.out (by decide)) (fun _ hk => hk.1)), (by (with_reducible repeat (first | refine blk_drewN ?_ _ | refine blk_drew ?_ | refine blk_alloc ?_ _)); refine blk_far ?_ NB308_327.out _; (with_reducible repeat (first | refine blk_drewN ?_ _ | refine blk_drew ?_ | refine blk_alloc ?_ _)); exact BK308.out), (by (with_reducible repeat (first | refine blk_drewN ?_ _ | refine blk_drew ?_ | refine blk_alloc ?_ _)); refine blk_far ?_ NB309_327.out _; (with_reducible repeat (first | refine blk_drewN ?_ _ | refine blk_drew ?_ | refine blk_alloc ?_ _)); exact BK309.out), (by (with_reducible repeat (first | refine blk_drewN ?_ _ | refine blk_drew ?_ | refine blk_alloc ?_ _)); refine blk_far ?_ NB310_327.out _; (with_reducible repeat (first | refine blk_drewN ?_ _ | refine blk_drew ?_ | refine blk_alloc ?_ _)); exact BK310.out), (by (with_reducible repeat (first | refine blk_drewN ?_ _ | refine blk_drew ?_ | refine blk_alloc ?_ _)); refine blk_put (cs := #[.int .i64 t313, .int .i64 t314, .slice Ao41 t315.length co41, .slice Ao40 t318.length co40, .slice Ao39 t321.length co39, .slice none 0 0, .slice none 0 0, .slice Ao38 y324.length co38, .slice none 0 0, .slice none 0 0, .int .i64 0]) ?_ 5 _ rfl; (with_reducible repeat (first | refine blk_drewN ?_ _ | refine blk_drew ?_ | refine blk_alloc ?_ _)); exact BK327.out), (by repeat (first | (with_reducible first | exact HB.out | apply below_alloc | apply pw_below_drewN | apply below_drew1 | refine below_set ?_ GE308.out | refine below_set ?_ GE309.out | refine below_set ?_ GE310.out | refine below_set ?_ GE327.out) | exact HB.out))⟩)
       ·skip
        rintro ⟨v329, v335⟩ w61 ⟨h0_, h1_, h2_, h3_, h4_, h5_, h6_, h7_, h8_, h9_, h10_⟩
        replace HO317 : Aside0 (Kd.R (Kd.int .i64) 3 w61 w.heap.size (fun k_ => some k_ ≠ (.slice Ao40 t318.length co40 : Value).ownBlock ∧ some k_ ≠ (.slice Ao39 t321.length co39 : Value).ownBlock ∧ some k_ ≠ (.slice Ao38 y324.length co38 : Value).ownBlock) (.slice Ao41 t315.length co41) t315) := ⟨h0_⟩
        replace HO320 : Aside0 (Kd.R (Kd.int .i64) 3 w61 w.heap.size (fun k_ => some k_ ≠ (.slice Ao41 t315.length co41 : Value).ownBlock ∧ some k_ ≠ (.slice Ao39 t321.length co39 : Value).ownBlock ∧ some k_ ≠ (.slice Ao38 y324.length co38 : Value).ownBlock) (.slice Ao40 t318.length co40) t318) := ⟨h1_⟩
        replace HO323 : Aside0 (Kd.R (Kd.int .i64) 3 w61 w.heap.size (fun k_ => some k_ ≠ (.slice Ao41 t315.length co41 : Value).ownBlock ∧ some k_ ≠ (.slice Ao40 t318.length co40 : Value).ownBlock ∧ some k_ ≠ (.slice Ao38 y324.length co38 : Value).ownBlock) (.slice Ao39 t321.length co39) t321) := ⟨h2_⟩
        replace HO326 : Aside0 (Kd.R (Kd.int .i64) 3 w61 w.heap.size (fun k_ => some k_ ≠ (.slice Ao41 t315.length co41 : Value).ownBlock ∧ some k_ ≠ (.slice Ao40 t318.length co40 : Value).ownBlock ∧ some k_ ≠ (.slice Ao39 t321.length co39 : Value).ownBlock) (.slice Ao38 y324.length co38) y324) := ⟨h3_⟩
        have HO330 : Aside0 (Kd.S (Kd.slice 79 k79) 61 w61 w.heap.size (fun k_ => some k_ ≠ (v335 : Value).ownBlock) v329 y328) := ⟨h4_⟩
        have HO336 : Aside0 (Kd.S (Kd.slice 79 k79) 61 w61 w.heap.size (fun k_ => some k_ ≠ (v329 : Value).ownBlock) v335 y334) := ⟨h5_⟩
        replace BK308 : Aside0 (w61.heap[gb308]? = some (.cells #[.int .i64 a0_0, .int .i64 a0_1, .slice A0_2 l0_2.length c0_2] 28 (0, 0))) := ⟨h6_⟩
        replace BK309 : Aside0 (w61.heap[gb309]? = some (.cells #[.slice A1_0 l1_0.length c1_0, .slice A1_1 l1_1.length c1_1] 32 (0, 0))) := ⟨h7_⟩
        replace BK310 : Aside0 (w61.heap[gb310]? = some (.cells #[.int .i64 0, .int .i64 0, .slice none 0 0, .slice none 0 0, .slice none 0 0, .slice none 0 0, .slice none 0 0, .slice none 0 0, .slice none 0 0, .slice none 0 0, .int .i64 0] 38 (0, 0))) := ⟨h8_⟩
        replace BK327 : Aside0 (w61.heap[gb327]? = some (.cells #[.int .i64 t313, .int .i64 t314, .slice Ao41 t315.length co41, .slice Ao40 t318.length co40, .slice Ao39 t321.length co39, v329, .slice none 0 0, .slice Ao38 y324.length co38, .slice none 0 0, .slice none 0 0, .int .i64 0] 38 (0, 0))) := ⟨h9_⟩
        replace HB : Aside0 (Below w.heap.size w w61) := ⟨h10_⟩
        clear h0_ h1_ h2_ h3_ h4_ h5_ h6_ h7_ h8_ h9_ h10_
        have hHeld := trivial
        refine norm_ (a' := ?_) ?_ ?_
        rotate_left
        ·simp only [putAll, Act.put, List.setIfInBounds_toArray, List.set_cons_zero, List.set_cons_succ]
         rfl
        refine one_ (i := 4) (N := some 28) (bt_ 13 511) rfl rfl (one_of HT_.out (by kernel_rfl)) (by decide) (fun K hK => ?_)
        refine Kd.S_make_step (Kd.slice 79 k79) _ 61 (by rfl) (N := 28) rfl 36 _ _ rfl t312 rfl rfl Try.underlying36 (.slice none 0 0) 24 info61 rfl (by decide) (by omega) [] (ok := fun _ => True) (okp := fun _ => True) ⟨_, rfl, Kd.R_nil _ _ _ _ _⟩ (fun _ hk => hk) trivial (of_decide_eq_true dg_) (Nat.le_trans (Nat.mul_le_mul_right _ (of_decide_eq_true dg_ : t312.toNat ≤ 11728124029610)) (by omega)) (Below.refl _ _) (Nat.le_refl _) ?_
        intro v332 w62 ho63 hb hg_ hnew_
        clear hg_ hnew_
        (first | rw [← Ny331.out] at ho63 | (simp only [Int.reduceToNat] at ho63; rw [← Ny331.out] at ho63))
        have n0_ := Aside0.mk (Kd.R_below (ra_ HO317.out) hb)
        have n1_ := Aside0.mk (Kd.R_below (ra_ HO320.out) hb)
        have n2_ := Aside0.mk (Kd.R_below (ra_ HO323.out) hb)
        have n3_ := Aside0.mk (Kd.R_below (ra_ HO326.out) hb)
        have n4_ := Aside0.mk (Kd.S_elder' (sa_ HO330.out) (Kd.S_base ho63) hb)
        have n5_ := Aside0.mk (Kd.S_elder' (sa_ HO336.out) (Kd.S_base ho63) hb)
        have n6_ := Aside0.mk (Kd.S_lower (Kd.S_new' (Kd.S_new' ho63 (sl_ HO330.out)) (sl_ HO336.out)) (bz_ HB.out))
        have n7_ := Aside0.mk (bk_ BK308.out hb)
        have n8_ := Aside0.mk (bk_ BK309.out hb)
        have n9_ := Aside0.mk (bk_ BK310.out hb)
        have n10_ := Aside0.mk (bk_ BK327.out hb)
        have n11_ := Aside0.mk (bs_ HB.out hb)
        clear HO317 HO320 HO323 HO326 HO330 HO336 BK308 BK309 BK310 BK327 HB
        have HO317 := n0_
        have HO320 := n1_
        have HO323 := n2_
        have HO326 := n3_
        have HO330 := n4_
        have HO336 := n5_
        have HO333 := n6_
        have BK308 := n7_
        have BK309 := n8_
        have BK310 := n9_
        have BK327 := n10_
        have HB := n11_
        clear n0_ n1_ n2_ n3_ n4_ n5_ n6_ n7_ n8_ n9_ n10_ n11_ hb ho63
        refine hK.out _ _ trivial (fun hHeld => ?_)
        clear hK K
        refine norm_ (a' := ?_) ?_ ?_
        rotate_left
        ·show Act.put _ (some 28) _ = _
         simp only [Act.put, List.setIfInBounds_toArray, List.set_cons_zero, List.set_cons_succ, i64_w, i32_w]
         rfl
        refine pu_ 9 32 (bt_ 13 1023) HT_ ?_
        exact norm_ (by simp only [putAll, Act.put, List.setIfInBounds_toArray, List.set_cons_zero, List.set_cons_succ]; first | done | rfl) (hJ2_4_6_8 (v329, v332, v335) _ ⟨(ra_ HO317.out), (ra_ HO320.out), (ra_ HO323.out), (ra_ HO326.out), (by (with_reducible repeat (first | apply Kd.S_alloc | apply Kd.S_drewN | apply Kd.S_drew)); exact Kd.S_mono HO330.out (fun _ hk => ⟨hk.2, hk.1⟩)), (by (with_reducible repeat (first | apply Kd.S_alloc | apply Kd.S_drewN | apply Kd.S_drew)); exact Kd.S_mono HO333.out (fun _ hk => ⟨hk.1.2, hk.2⟩)), (sa_ HO336.out), bq_ BK308.out, bq_ BK309.out, bq_ BK310.out, bq_ BK327.out, (by repeat (first | (with_reducible first | exact HB.out | apply below_alloc | apply pw_below_drewN | apply below_drew1 | refine below_set ?_ GE308.out | refine below_set ?_ GE309.out | refine below_set ?_ GE310.out | refine below_set ?_ GE327.out) | exact HB.out))⟩)
      ·skip
       rintro ⟨v329, v332⟩ w61 ⟨h0_, h1_, h2_, h3_, h4_, h5_, h6_, h7_, h8_, h9_, h10_⟩
       replace HO317 : Aside0 (Kd.R (Kd.int .i64) 3 w61 w.heap.size (fun k_ => some k_ ≠ (.slice Ao40 t318.length co40 : Value).ownBlock ∧ some k_ ≠ (.slice Ao39 t321.length co39 : Value).ownBlock ∧ some k_ ≠ (.slice Ao38 y324.length co38 : Value).ownBlock) (.slice Ao41 t315.length co41) t315) := ⟨h0_⟩
       replace HO320 : Aside0 (Kd.R (Kd.int .i64) 3 w61 w.heap.size (fun k_ => some k_ ≠ (.slice Ao41 t315.length co41 : Value).ownBlock ∧ some k_ ≠ (.slice Ao39 t321.length co39 : Value).ownBlock ∧ some k_ ≠ (.slice Ao38 y324.length co38 : Value).ownBlock) (.slice Ao40 t318.length co40) t318) := ⟨h1_⟩
       replace HO323 : Aside0 (Kd.R (Kd.int .i64) 3 w61 w.heap.size (fun k_ => some k_ ≠ (.slice Ao41 t315.length co41 : Value).ownBlock ∧ some k_ ≠ (.slice Ao40 t318.length co40 : Value).ownBlock ∧ some k_ ≠ (.slice Ao38 y324.length co38 : Value).ownBlock) (.slice Ao39 t321.length co39) t321) := ⟨h2_⟩
       replace HO326 : Aside0 (Kd.R (Kd.int .i64) 3 w61 w.heap.size (fun k_ => some k_ ≠ (.slice Ao41 t315.length co41 : Value).ownBlock ∧ some k_ ≠ (.slice Ao40 t318.length co40 : Value).ownBlock ∧ some k_ ≠ (.slice Ao39 t321.length co39 : Value).ownBlock) (.slice Ao38 y324.length co38) y324) := ⟨h3_⟩
       have HO330 : Aside0 (Kd.S (Kd.slice 79 k79) 61 w61 w.heap.size (fun k_ => some k_ ≠ (v332 : Value).ownBlock) v329 y328) := ⟨h4_⟩
       have HO333 : Aside0 (Kd.S (Kd.slice 79 k79) 61 w61 w.heap.size (fun k_ => some k_ ≠ (v329 : Value).ownBlock) v332 y331) := ⟨h5_⟩
       replace BK308 : Aside0 (w61.heap[gb308]? = some (.cells #[.int .i64 a0_0, .int .i64 a0_1, .slice A0_2 l0_2.length c0_2] 28 (0, 0))) := ⟨h6_⟩
       replace BK309 : Aside0 (w61.heap[gb309]? = some (.cells #[.slice A1_0 l1_0.length c1_0, .slice A1_1 l1_1.length c1_1] 32 (0, 0))) := ⟨h7_⟩
       replace BK310 : Aside0 (w61.heap[gb310]? = some (.cells #[.int .i64 0, .int .i64 0, .slice none 0 0, .slice none 0 0, .slice none 0 0, .slice none 0 0, .slice none 0 0, .slice none 0 0, .slice none 0 0, .slice none 0 0, .int .i64 0] 38 (0, 0))) := ⟨h8_⟩
       replace BK327 : Aside0 (w61.heap[gb327]? = some (.cells #[.int .i64 t313, .int .i64 t314, .slice Ao41 t315.length co41, .slice Ao40 t318.length co40, .slice Ao39 t321.length co39, v329, .slice none 0 0, .slice Ao38 y324.length co38, .slice none 0 0, .slice none 0 0, .int .i64 0] 38 (0, 0))) := ⟨h9_⟩
       replace HB : Aside0 (Below w.heap.size w w61) := ⟨h10_⟩
       clear h0_ h1_ h2_ h3_ h4_ h5_ h6_ h7_ h8_ h9_ h10_
       have hHeld := trivial
       refine norm_ (a' := ?_) ?_ ?_
       rotate_left
       ·simp only [putAll, Act.put, List.setIfInBounds_toArray, List.set_cons_zero, List.set_cons_succ]
        rfl
       refine two_ (i := 6) (j := 10) (Ni := some 30) (Nj := none) #[true, true, true, true, true, true, true, true, true, true, false, false, false] #[true, true, true, true, true, true, false, true, true, true, true, false, false] rfl rfl rfl rfl (two_of HT_.out (by kernel_rfl)) (by decide) (by decide) (fun K hK => ?_) (fun K hK => ?_)
       ·skip
        refine Kd.S_make_step (Kd.slice 79 k79) _ 61 (by rfl) (N := 30) rfl 36 _ _ rfl t312 rfl rfl Try.underlying36 (.slice none 0 0) 24 info61 rfl (by decide) (by omega) [] (ok := fun _ => True) (okp := fun _ => True) ⟨_, rfl, Kd.R_nil _ _ _ _ _⟩ (fun _ hk => hk) trivial (of_decide_eq_true dg_) (Nat.le_trans (Nat.mul_le_mul_right _ (of_decide_eq_true dg_ : t312.toNat ≤ 11728124029610)) (by omega)) (Below.refl _ _) (Nat.le_refl _) ?_
        intro v335 w62 ho63 hb hg_ hnew_
        clear hg_ hnew_
        (first | rw [← Ny334.out] at ho63 | (simp only [Int.reduceToNat] at ho63; rw [← Ny334.out] at ho63))
        have n0_ := Aside0.mk (Kd.R_below (ra_ HO317.out) hb)
        have n1_ := Aside0.mk (Kd.R_below (ra_ HO320.out) hb)
        have n2_ := Aside0.mk (Kd.R_below (ra_ HO323.out) hb)
        have n3_ := Aside0.mk (Kd.R_below (ra_ HO326.out) hb)
        have n4_ := Aside0.mk (Kd.S_elder' (sa_ HO330.out) (Kd.S_base ho63) hb)
        have n5_ := Aside0.mk (Kd.S_elder' (sa_ HO333.out) (Kd.S_base ho63) hb)
        have n6_ := Aside0.mk (Kd.S_lower (Kd.S_new' (Kd.S_new' ho63 (sl_ HO330.out)) (sl_ HO333.out)) (bz_ HB.out))
        have n7_ := Aside0.mk (bk_ BK308.out hb)
        have n8_ := Aside0.mk (bk_ BK309.out hb)
        have n9_ := Aside0.mk (bk_ BK310.out hb)
        have n10_ := Aside0.mk (bk_ BK327.out hb)
        have n11_ := Aside0.mk (bs_ HB.out hb)
        clear HO317 HO320 HO323 HO326 HO330 HO333 BK308 BK309 BK310 BK327 HB
        have HO317 := n0_
        have HO320 := n1_
        have HO323 := n2_
        have HO326 := n3_
        have HO330 := n4_
        have HO333 := n5_
        have HO336 := n6_
        have BK308 := n7_
        have BK309 := n8_
        have BK310 := n9_
        have BK327 := n10_
        have HB := n11_
        clear n0_ n1_ n2_ n3_ n4_ n5_ n6_ n7_ n8_ n9_ n10_ n11_ hb ho63
        refine hK.out _ _ trivial (fun hHeld => ?_)
        clear hK K
        refine norm_ (a' := ?_) ?_ ?_
        rotate_left
        ·show Act.put _ (some 30) _ = _
         simp only [Act.put, List.setIfInBounds_toArray, List.set_cons_zero, List.set_cons_succ, i64_w, i32_w]
         rfl
        exact norm_ (by simp only [putAll, Act.put, List.setIfInBounds_toArray, List.set_cons_zero, List.set_cons_succ]; first | done | rfl) (hJ2_4_6_8 (v329, v332, v335) _ ⟨(ra_ HO317.out), (ra_ HO320.out), (ra_ HO323.out), (ra_ HO326.out), (sa_ HO330.out), (sa_ HO333.out), (by (with_reducible repeat (first | apply Kd.S_alloc | apply Kd.S_drewN | apply Kd.S_drew)); exact Kd.S_mono HO336.out (fun _ hk => ⟨hk.1.2, hk.2⟩)), bq_ BK308.out, bq_ BK309.out, bq_ BK310.out, bq_ BK327.out, (by repeat (first | (with_reducible first | exact HB.out | apply below_alloc | apply pw_below_drewN | apply below_drew1 | refine below_set ?_ GE308.out | refine below_set ?_ GE309.out | refine below_set ?_ GE310.out | refine below_set ?_ GE327.out) | exact HB.out))⟩)
       ·skip
        obtain ⟨Ao62, co62, eo62⟩ := Kd.S_slice HO333.out
        (first | subst eo62 | (injection eo62 with f1_ f2_ f3_; have f4_ := f1_.symm; have f5_ := f3_.symm; clear f1_ f2_ f3_; subst f4_; subst f5_))
        have hs63 : w61.cell? ⟨gb327, 8, none⟩ = some (.slice none 0 0) := (blk_cell BK327.out 8).trans rfl
        have hfs63 := blk_frozen BK327.out 8
        have hns63_0 := NB308_327.out
        have hns63_1 := NB309_327.out
        have hns63_2 := NB310_327.out
        have hms63_0 := NB327_308.out
        have hms63_1 := NB327_309.out
        have hms63_2 := NB327_310.out
        refine skip_ (w1 := ?_) (by rfl) rfl ?_ ?_
        rotate_left
        ·go_simp
         rfl
        refine hK.out _ _ trivial (fun hHeld => ?_)
        clear hK K
        exact norm_ (by simp only [putAll, Act.put, List.setIfInBounds_toArray, List.set_cons_zero, List.set_cons_succ]; first | done | rfl) (hJ2_4_8_10 (v329, .slice Ao62 y331.length co62) _ ⟨(rm_ (Kd.R_types HO317.out BK327.out (by decide)) (fun _ hk => ⟨hk.1.1, ⟨hk.1.2.1, hk.1.2.2⟩⟩)), (rm_ (Kd.R_types HO320.out BK327.out (by decide)) (fun _ hk => ⟨hk.1.1, ⟨hk.1.2.1, hk.1.2.2⟩⟩)), (rm_ (Kd.R_types HO323.out BK327.out (by decide)) (fun _ hk => ⟨hk.1.1, ⟨hk.1.2.1, hk.1.2.2⟩⟩)), (rm_ (Kd.R_types HO326.out BK327.out (by decide)) (fun _ hk => ⟨hk.1.1, ⟨hk.1.2.1, hk.1.2.2⟩⟩)), (sm_ (Kd.S_types HO330.out BK327.out (by decide)) (fun _ hk => hk.1)), (sm_ (Kd.S_types HO333.out BK327.out (by decide)) (fun _ hk => hk.1)), (by (with_reducible repeat (first | refine blk_drewN ?_ _ | refine blk_drew ?_ | refine blk_alloc ?_ _)); refine blk_far ?_ NB308_327.out _; (with_reducible repeat (first | refine blk_drewN ?_ _ | refine blk_drew ?_ | refine blk_alloc ?_ _)); exact BK308.out), (by (with_reducible repeat (first | refine blk_drewN ?_ _ | refine blk_drew ?_ | refine blk_alloc ?_ _)); refine blk_far ?_ NB309_327.out _; (with_reducible repeat (first | refine blk_drewN ?_ _ | refine blk_drew ?_ | refine blk_alloc ?_ _)); exact BK309.out), (by (with_reducible repeat (first | refine blk_drewN ?_ _ | refine blk_drew ?_ | refine blk_alloc ?_ _)); refine blk_far ?_ NB310_327.out _; (with_reducible repeat (first | refine blk_drewN ?_ _ | refine blk_drew ?_ | refine blk_alloc ?_ _)); exact BK310.out), (by (with_reducible repeat (first | refine blk_drewN ?_ _ | refine blk_drew ?_ | refine blk_alloc ?_ _)); refine blk_put (cs := #[.int .i64 t313, .int .i64 t314, .slice Ao41 t315.length co41, .slice Ao40 t318.length co40, .slice Ao39 t321.length co39, v329, .slice none 0 0, .slice Ao38 y324.length co38, .slice none 0 0, .slice none 0 0, .int .i64 0]) ?_ 8 _ rfl; (with_reducible repeat (first | refine blk_drewN ?_ _ | refine blk_drew ?_ | refine blk_alloc ?_ _)); exact BK327.out), (by repeat (first | (with_reducible first | exact HB.out | apply below_alloc | apply pw_below_drewN | apply below_drew1 | refine below_set ?_ GE308.out | refine below_set ?_ GE309.out | refine below_set ?_ GE310.out | refine below_set ?_ GE327.out) | exact HB.out))⟩)
     ·skip
      rintro ⟨v329, v332, v335⟩ w61 ⟨h0_, h1_, h2_, h3_, h4_, h5_, h6_, h7_, h8_, h9_, h10_, h11_⟩
      replace HO317 : Aside0 (Kd.R (Kd.int .i64) 3 w61 w.heap.size (fun k_ => some k_ ≠ (.slice Ao40 t318.length co40 : Value).ownBlock ∧ some k_ ≠ (.slice Ao39 t321.length co39 : Value).ownBlock ∧ some k_ ≠ (.slice Ao38 y324.length co38 : Value).ownBlock) (.slice Ao41 t315.length co41) t315) := ⟨h0_⟩
      replace HO320 : Aside0 (Kd.R (Kd.int .i64) 3 w61 w.heap.size (fun k_ => some k_ ≠ (.slice Ao41 t315.length co41 : Value).ownBlock ∧ some k_ ≠ (.slice Ao39 t321.length co39 : Value).ownBlock ∧ some k_ ≠ (.slice Ao38 y324.length co38 : Value).ownBlock) (.slice Ao40 t318.length co40) t318) := ⟨h1_⟩
      replace HO323 : Aside0 (Kd.R (Kd.int .i64) 3 w61 w.heap.size (fun k_ => some k_ ≠ (.slice Ao41 t315.length co41 : Value).ownBlock ∧ some k_ ≠ (.slice Ao40 t318.length co40 : Value).ownBlock ∧ some k_ ≠ (.slice Ao38 y324.length co38 : Value).ownBlock) (.slice Ao39 t321.length co39) t321) := ⟨h2_⟩
      replace HO326 : Aside0 (Kd.R (Kd.int .i64) 3 w61 w.heap.size (fun k_ => some k_ ≠ (.slice Ao41 t315.length co41 : Value).ownBlock ∧ some k_ ≠ (.slice Ao40 t318.length co40 : Value).ownBlock ∧ some k_ ≠ (.slice Ao39 t321.length co39 : Value).ownBlock) (.slice Ao38 y324.length co38) y324) := ⟨h3_⟩
      have HO330 : Aside0 (Kd.S (Kd.slice 79 k79) 61 w61 w.heap.size (fun k_ => some k_ ≠ (v332 : Value).ownBlock ∧ some k_ ≠ (v335 : Value).ownBlock) v329 y328) := ⟨h4_⟩
      have HO333 : Aside0 (Kd.S (Kd.slice 79 k79) 61 w61 w.heap.size (fun k_ => some k_ ≠ (v329 : Value).ownBlock ∧ some k_ ≠ (v335 : Value).ownBlock) v332 y331) := ⟨h5_⟩
      have HO336 : Aside0 (Kd.S (Kd.slice 79 k79) 61 w61 w.heap.size (fun k_ => some k_ ≠ (v329 : Value).ownBlock ∧ some k_ ≠ (v332 : Value).ownBlock) v335 y334) := ⟨h6_⟩
      replace BK308 : Aside0 (w61.heap[gb308]? = some (.cells #[.int .i64 a0_0, .int .i64 a0_1, .slice A0_2 l0_2.length c0_2] 28 (0, 0))) := ⟨h7_⟩
      replace BK309 : Aside0 (w61.heap[gb309]? = some (.cells #[.slice A1_0 l1_0.length c1_0, .slice A1_1 l1_1.length c1_1] 32 (0, 0))) := ⟨h8_⟩
      replace BK310 : Aside0 (w61.heap[gb310]? = some (.cells #[.int .i64 0, .int .i64 0, .slice none 0 0, .slice none 0 0, .slice none 0 0, .slice none 0 0, .slice none 0 0, .slice none 0 0, .slice none 0 0, .slice none 0 0, .int .i64 0] 38 (0, 0))) := ⟨h9_⟩
      replace BK327 : Aside0 (w61.heap[gb327]? = some (.cells #[.int .i64 t313, .int .i64 t314, .slice Ao41 t315.length co41, .slice Ao40 t318.length co40, .slice Ao39 t321.length co39, .slice none 0 0, .slice none 0 0, .slice Ao38 y324.length co38, .slice none 0 0, .slice none 0 0, .int .i64 0] 38 (0, 0))) := ⟨h10_⟩
      replace HB : Aside0 (Below w.heap.size w w61) := ⟨h11_⟩
      clear h0_ h1_ h2_ h3_ h4_ h5_ h6_ h7_ h8_ h9_ h10_ h11_
      have hHeld := trivial
      obtain ⟨Ao62, co62, eo62⟩ := Kd.S_slice HO330.out
      (first | subst eo62 | (injection eo62 with f1_ f2_ f3_; have f4_ := f1_.symm; have f5_ := f3_.symm; clear f1_ f2_ f3_; subst f4_; subst f5_))
      refine norm_ (a' := ?_) ?_ ?_
      rotate_left
      ·simp only [putAll, Act.put, List.setIfInBounds_toArray, List.set_cons_zero, List.set_cons_succ]
       rfl
      refine one_ (i := 8) (N := none) (bt_ 13 511) rfl rfl (one_of HT_.out (by kernel_rfl)) (by decide) (fun K hK => ?_)
      obtain ⟨Ao62, co62, eo62⟩ := Kd.S_slice HO330.out
      (first | subst eo62 | (injection eo62 with f1_ f2_ f3_; have f4_ := f1_.symm; have f5_ := f3_.symm; clear f1_ f2_ f3_; subst f4_; subst f5_))
      have hs63 : w61.cell? ⟨gb327, 5, none⟩ = some (.slice none 0 0) := (blk_cell BK327.out 5).trans rfl
      have hfs63 := blk_frozen BK327.out 5
      have hns63_0 := NB308_327.out
      have hns63_1 := NB309_327.out
      have hns63_2 := NB310_327.out
      have hms63_0 := NB327_308.out
      have hms63_1 := NB327_309.out
      have hms63_2 := NB327_310.out
      refine skip_ (w1 := ?_) (by rfl) rfl ?_ ?_
      rotate_left
      ·go_simp
       rfl
      refine hK.out _ _ trivial (fun hHeld => ?_)
      clear hK K
      refine pu_ 9 32 (bt_ 13 1023) HT_ ?_
      exact norm_ (by simp only [putAll, Act.put, List.setIfInBounds_toArray, List.set_cons_zero, List.set_cons_succ]; first | done | rfl) (hJ2_4_6_8 (.slice Ao62 y328.length co62, v332, v335) _ ⟨(rm_ (Kd.R_types HO317.out BK327.out (by decide)) (fun _ hk => ⟨hk.1.1, ⟨hk.1.2.1, hk.1.2.2⟩⟩)), (rm_ (Kd.R_types HO320.out BK327.out (by decide)) (fun _ hk => ⟨hk.1.1, ⟨hk.1.2.1, hk.1.2.2⟩⟩)), (rm_ (Kd.R_types HO323.out BK327.out (by decide)) (fun _ hk => ⟨hk.1.1, ⟨hk.1.2.1, hk.1.2.2⟩⟩)), (rm_ (Kd.R_types HO326.out BK327.out (by decide)) (fun _ hk => ⟨hk.1.1, ⟨hk.1.2.1, hk.1.2.2⟩⟩)), (sm_ (Kd.S_types HO330.out BK327.out (by decide)) (fun _ hk => ⟨hk.1.1, hk.1.2⟩)), (sm_ (Kd.S_types HO333.out BK327.out (by decide)) (fun _ hk => ⟨hk.1.1, hk.1.2⟩)), (sm_ (Kd.S_types HO336.out BK327.out (by decide)) (fun _ hk => ⟨hk.1.1, hk.1.2⟩)), (by (with_reducible repeat (first | refine blk_drewN ?_ _ | refine blk_drew ?_ | refine blk_alloc ?_ _)); refine blk_far ?_ NB308_327.out _; (with_reducible repeat (first | refine blk_drewN ?_ _ | refine blk_drew ?_ | refine blk_alloc ?_ _)); exact BK308.out), (by (with_reducible repeat (first | refine blk_drewN ?_ _ | refine blk_drew ?_ | refine blk_alloc ?_ _)); refine blk_far ?_ NB309_327.out _; (with_reducible repeat (first | refine blk_drewN ?_ _ | refine blk_drew ?_ | refine blk_alloc ?_ _)); exact BK309.out), (by (with_reducible repeat (first | refine blk_drewN ?_ _ | refine blk_drew ?_ | refine blk_alloc ?_ _)); refine blk_far ?_ NB310_327.out _; (with_reducible repeat (first | refine blk_drewN ?_ _ | refine blk_drew ?_ | refine blk_alloc ?_ _)); exact BK310.out), (by (with_reducible repeat (first | refine blk_drewN ?_ _ | refine blk_drew ?_ | refine blk_alloc ?_ _)); refine blk_put (cs := #[.int .i64 t313, .int .i64 t314, .slice Ao41 t315.length co41, .slice Ao40 t318.length co40, .slice Ao39 t321.length co39, .slice none 0 0, .slice none 0 0, .slice Ao38 y324.length co38, .slice none 0 0, .slice none 0 0, .int .i64 0]) ?_ 5 _ rfl; (with_reducible repeat (first | refine blk_drewN ?_ _ | refine blk_drew ?_ | refine blk_alloc ?_ _)); exact BK327.out), (by repeat (first | (with_reducible first | exact HB.out | apply below_alloc | apply pw_below_drewN | apply below_drew1 | refine below_set ?_ GE308.out | refine below_set ?_ GE309.out | refine below_set ?_ GE310.out | refine below_set ?_ GE327.out) | exact HB.out))⟩)
    ·skip
     rintro ⟨v329, v332⟩ w63 ⟨h0_, h1_, h2_, h3_, h4_, h5_, h6_, h7_, h8_, h9_, h10_⟩
     replace HO317 : Aside0 (Kd.R (Kd.int .i64) 3 w63 w.heap.size (fun k_ => some k_ ≠ (.slice Ao40 t318.length co40 : Value).ownBlock ∧ some k_ ≠ (.slice Ao39 t321.length co39 : Value).ownBlock ∧ some k_ ≠ (.slice Ao38 y324.length co38 : Value).ownBlock) (.slice Ao41 t315.length co41) t315) := ⟨h0_⟩
     replace HO320 : Aside0 (Kd.R (Kd.int .i64) 3 w63 w.heap.size (fun k_ => some k_ ≠ (.slice Ao41 t315.length co41 : Value).ownBlock ∧ some k_ ≠ (.slice Ao39 t321.length co39 : Value).ownBlock ∧ some k_ ≠ (.slice Ao38 y324.length co38 : Value).ownBlock) (.slice Ao40 t318.length co40) t318) := ⟨h1_⟩
     replace HO323 : Aside0 (Kd.R (Kd.int .i64) 3 w63 w.heap.size (fun k_ => some k_ ≠ (.slice Ao41 t315.length co41 : Value).ownBlock ∧ some k_ ≠ (.slice Ao40 t318.length co40 : Value).ownBlock ∧ some k_ ≠ (.slice Ao38 y324.length co38 : Value).ownBlock) (.slice Ao39 t321.length co39) t321) := ⟨h2_⟩
     replace HO326 : Aside0 (Kd.R (Kd.int .i64) 3 w63 w.heap.size (fun k_ => some k_ ≠ (.slice Ao41 t315.length co41 : Value).ownBlock ∧ some k_ ≠ (.slice Ao40 t318.length co40 : Value).ownBlock ∧ some k_ ≠ (.slice Ao39 t321.length co39 : Value).ownBlock) (.slice Ao38 y324.length co38) y324) := ⟨h3_⟩
     have HO330 : Aside0 (Kd.S (Kd.slice 79 k79) 61 w63 w.heap.size (fun k_ => some k_ ≠ (v332 : Value).ownBlock) v329 y328) := ⟨h4_⟩
     have HO333 : Aside0 (Kd.S (Kd.slice 79 k79) 61 w63 w.heap.size (fun k_ => some k_ ≠ (v329 : Value).ownBlock) v332 y331) := ⟨h5_⟩
     replace BK308 : Aside0 (w63.heap[gb308]? = some (.cells #[.int .i64 a0_0, .int .i64 a0_1, .slice A0_2 l0_2.length c0_2] 28 (0, 0))) := ⟨h6_⟩
     replace BK309 : Aside0 (w63.heap[gb309]? = some (.cells #[.slice A1_0 l1_0.length c1_0, .slice A1_1 l1_1.length c1_1] 32 (0, 0))) := ⟨h7_⟩
     replace BK310 : Aside0 (w63.heap[gb310]? = some (.cells #[.int .i64 0, .int .i64 0, .slice none 0 0, .slice none 0 0, .slice none 0 0, .slice none 0 0, .slice none 0 0, .slice none 0 0, .slice none 0 0, .slice none 0 0, .int .i64 0] 38 (0, 0))) := ⟨h8_⟩
     replace BK327 : Aside0 (w63.heap[gb327]? = some (.cells #[.int .i64 t313, .int .i64 t314, .slice Ao41 t315.length co41, .slice Ao40 t318.length co40, .slice Ao39 t321.length co39, v329, .slice none 0 0, .slice Ao38 y324.length co38, v332, .slice none 0 0, .int .i64 0] 38 (0, 0))) := ⟨h9_⟩
     replace HB : Aside0 (Below w.heap.size w w63) := ⟨h10_⟩
     clear h0_ h1_ h2_ h3_ h4_ h5_ h6_ h7_ h8_ h9_ h10_
     have hHeld := trivial
     refine norm_ (a' := ?_) ?_ ?_
     rotate_left
     ·simp only [putAll, Act.put, List.setIfInBounds_toArray, List.set_cons_zero, List.set_cons_succ]
      rfl
     refine one_ (i := 6) (N := some 30) (bt_ 13 2047) rfl rfl (one_of HT_.out (by kernel_rfl)) (by decide) (fun K hK => ?_)
     refine Kd.S_make_step (Kd.slice 79 k79) _ 61 (by rfl) (N := 30) rfl 36 _ _ rfl t312 rfl rfl Try.underlying36 (.slice none 0 0) 24 info61 rfl (by decide) (by omega) [] (ok := fun _ => True) (okp := fun _ => True) ⟨_, rfl, Kd.R_nil _ _ _ _ _⟩ (fun _ hk => hk) trivial (of_decide_eq_true dg_) (Nat.le_trans (Nat.mul_le_mul_right _ (of_decide_eq_true dg_ : t312.toNat ≤ 11728124029610)) (by omega)) (Below.refl _ _) (Nat.le_refl _) ?_
     intro v335 w64 ho65 hb hg_ hnew_
     clear hg_ hnew_
     (first | rw [← Ny334.out] at ho65 | (simp only [Int.reduceToNat] at ho65; rw [← Ny334.out] at ho65))
     have n0_ := Aside0.mk (Kd.R_below (ra_ HO317.out) hb)
     have n1_ := Aside0.mk (Kd.R_below (ra_ HO320.out) hb)
     have n2_ := Aside0.mk (Kd.R_below (ra_ HO323.out) hb)
     have n3_ := Aside0.mk (Kd.R_below (ra_ HO326.out) hb)
     have n4_ := Aside0.mk (Kd.S_elder' (sa_ HO330.out) (Kd.S_base ho65) hb)
     have n5_ := Aside0.mk (Kd.S_elder' (sa_ HO333.out) (Kd.S_base ho65) hb)
     have n6_ := Aside0.mk (Kd.S_lower (Kd.S_new' (Kd.S_new' ho65 (sl_ HO330.out)) (sl_ HO333.out)) (bz_ HB.out))
     have n7_ := Aside0.mk (bk_ BK308.out hb)
     have n8_ := Aside0.mk (bk_ BK309.out hb)
     have n9_ := Aside0.mk (bk_ BK310.out hb)
     have n10_ := Aside0.mk (bk_ BK327.out hb)
     have n11_ := Aside0.mk (bs_ HB.out hb)
     clear HO317 HO320 HO323 HO326 HO330 HO333 BK308 BK309 BK310 BK327 HB
     have HO317 := n0_
     have HO320 := n1_
     have HO323 := n2_
     have HO326 := n3_
     have HO330 := n4_
     have HO333 := n5_
     have HO336 := n6_
     have BK308 := n7_
     have BK309 := n8_
     have BK310 := n9_
     have BK327 := n10_
     have HB := n11_
     clear n0_ n1_ n2_ n3_ n4_ n5_ n6_ n7_ n8_ n9_ n10_ n11_ hb ho65
     refine hK.out _ _ trivial (fun hHeld => ?_)
     clear hK K
     refine norm_ (a' := ?_) ?_ ?_
     rotate_left
     ·show Act.put _ (some 30) _ = _
      simp only [Act.put, List.setIfInBounds_toArray, List.set_cons_zero, List.set_cons_succ, i64_w, i32_w]
      rfl
     exact norm_ (by simp only [putAll, Act.put, List.setIfInBounds_toArray, List.set_cons_zero, List.set_cons_succ]; first | done | rfl) (hJ2_4_6_8_10 (v329, v332, v335) _ ⟨(ra_ HO317.out), (ra_ HO320.out), (ra_ HO323.out), (ra_ HO326.out), (sa_ HO330.out), (sa_ HO333.out), (by (with_reducible repeat (first | apply Kd.S_alloc | apply Kd.S_drewN | apply Kd.S_drew)); exact Kd.S_mono HO336.out (fun _ hk => ⟨hk.1.2, hk.2⟩)), bq_ BK308.out, bq_ BK309.out, bq_ BK310.out, bq_ BK327.out, (by repeat (first | (with_reducible first | exact HB.out | apply below_alloc | apply pw_below_drewN | apply below_drew1 | refine below_set ?_ GE308.out | refine below_set ?_ GE309.out | refine below_set ?_ GE310.out | refine below_set ?_ GE327.out) | exact HB.out))⟩)
   ·skip
    rintro ⟨v329, v332, v335⟩ w63 ⟨h0_, h1_, h2_, h3_, h4_, h5_, h6_, h7_, h8_, h9_, h10_, h11_⟩
    replace HO317 : Aside0 (Kd.R (Kd.int .i64) 3 w63 w.heap.size (fun k_ => some k_ ≠ (.slice Ao40 t318.length co40 : Value).ownBlock ∧ some k_ ≠ (.slice Ao39 t321.length co39 : Value).ownBlock ∧ some k_ ≠ (.slice Ao38 y324.length co38 : Value).ownBlock) (.slice Ao41 t315.length co41) t315) := ⟨h0_⟩
    replace HO320 : Aside0 (Kd.R (Kd.int .i64) 3 w63 w.heap.size (fun k_ => some k_ ≠ (.slice Ao41 t315.length co41 : Value).ownBlock ∧ some k_ ≠ (.slice Ao39 t321.length co39 : Value).ownBlock ∧ some k_ ≠ (.slice Ao38 y324.length co38 : Value).ownBlock) (.slice Ao40 t318.length co40) t318) := ⟨h1_⟩
    replace HO323 : Aside0 (Kd.R (Kd.int .i64) 3 w63 w.heap.size (fun k_ => some k_ ≠ (.slice Ao41 t315.length co41 : Value).ownBlock ∧ some k_ ≠ (.slice Ao40 t318.length co40 : Value).ownBlock ∧ some k_ ≠ (.slice Ao38 y324.length co38 : Value).ownBlock) (.slice Ao39 t321.length co39) t321) := ⟨h2_⟩
    replace HO326 : Aside0 (Kd.R (Kd.int .i64) 3 w63 w.heap.size (fun k_ => some k_ ≠ (.slice Ao41 t315.length co41 : Value).ownBlock ∧ some k_ ≠ (.slice Ao40 t318.length co40 : Value).ownBlock ∧ some k_ ≠ (.slice Ao39 t321.length co39 : Value).ownBlock) (.slice Ao38 y324.length co38) y324) := ⟨h3_⟩
    have HO330 : Aside0 (Kd.S (Kd.slice 79 k79) 61 w63 w.heap.size (fun k_ => some k_ ≠ (v332 : Value).ownBlock ∧ some k_ ≠ (v335 : Value).ownBlock) v329 y328) := ⟨h4_⟩
    have HO333 : Aside0 (Kd.S (Kd.slice 79 k79) 61 w63 w.heap.size (fun k_ => some k_ ≠ (v329 : Value).ownBlock ∧ some k_ ≠ (v335 : Value).ownBlock) v332 y331) := ⟨h5_⟩
    have HO336 : Aside0 (Kd.S (Kd.slice 79 k79) 61 w63 w.heap.size (fun k_ => some k_ ≠ (v329 : Value).ownBlock ∧ some k_ ≠ (v332 : Value).ownBlock) v335 y334) := ⟨h6_⟩
    replace BK308 : Aside0 (w63.heap[gb308]? = some (.cells #[.int .i64 a0_0, .int .i64 a0_1, .slice A0_2 l0_2.length c0_2] 28 (0, 0))) := ⟨h7_⟩
    replace BK309 : Aside0 (w63.heap[gb309]? = some (.cells #[.slice A1_0 l1_0.length c1_0, .slice A1_1 l1_1.length c1_1] 32 (0, 0))) := ⟨h8_⟩
    replace BK310 : Aside0 (w63.heap[gb310]? = some (.cells #[.int .i64 0, .int .i64 0, .slice none 0 0, .slice none 0 0, .slice none 0 0, .slice none 0 0, .slice none 0 0, .slice none 0 0, .slice none 0 0, .slice none 0 0, .int .i64 0] 38 (0, 0))) := ⟨h9_⟩
    replace BK327 : Aside0 (w63.heap[gb327]? = some (.cells #[.int .i64 t313, .int .i64 t314, .slice Ao41 t315.length co41, .slice Ao40 t318.length co40, .slice Ao39 t321.length co39, v329, .slice none 0 0, .slice Ao38 y324.length co38, .slice none 0 0, .slice none 0 0, .int .i64 0] 38 (0, 0))) := ⟨h10_⟩
    replace HB : Aside0 (Below w.heap.size w w63) := ⟨h11_⟩
    clear h0_ h1_ h2_ h3_ h4_ h5_ h6_ h7_ h8_ h9_ h10_ h11_
    have hHeld := trivial
    obtain ⟨Ao64, co64, eo64⟩ := Kd.S_slice HO333.out
    (first | subst eo64 | (injection eo64 with f1_ f2_ f3_; have f4_ := f1_.symm; have f5_ := f3_.symm; clear f1_ f2_ f3_; subst f4_; subst f5_))
    refine norm_ (a' := ?_) ?_ ?_
    rotate_left
    ·simp only [putAll, Act.put, List.setIfInBounds_toArray, List.set_cons_zero, List.set_cons_succ]
     rfl
    refine one_ (i := 10) (N := none) (bt_ 13 2047) rfl rfl (one_of HT_.out (by kernel_rfl)) (by decide) (fun K hK => ?_)
    obtain ⟨Ao64, co64, eo64⟩ := Kd.S_slice HO333.out
    (first | subst eo64 | (injection eo64 with f1_ f2_ f3_; have f4_ := f1_.symm; have f5_ := f3_.symm; clear f1_ f2_ f3_; subst f4_; subst f5_))
    have hs65 : w63.cell? ⟨gb327, 8, none⟩ = some (.slice none 0 0) := (blk_cell BK327.out 8).trans rfl
    have hfs65 := blk_frozen BK327.out 8
    have hns65_0 := NB308_327.out
    have hns65_1 := NB309_327.out
    have hns65_2 := NB310_327.out
    have hms65_0 := NB327_308.out
    have hms65_1 := NB327_309.out
    have hms65_2 := NB327_310.out
    refine skip_ (w1 := ?_) (by rfl) rfl ?_ ?_
    rotate_left
    ·go_simp
     rfl
    refine hK.out _ _ trivial (fun hHeld => ?_)
    clear hK K
    exact norm_ (by simp only [putAll, Act.put, List.setIfInBounds_toArray, List.set_cons_zero, List.set_cons_succ]; first | done | rfl) (hJ2_4_6_8_10 (v329, .slice Ao64 y331.length co64, v335) _ ⟨(rm_ (Kd.R_types HO317.out BK327.out (by decide)) (fun _ hk => ⟨hk.1.1, ⟨hk.1.2.1, hk.1.2.2⟩⟩)), (rm_ (Kd.R_types HO320.out BK327.out (by decide)) (fun _ hk => ⟨hk.1.1, ⟨hk.1.2.1, hk.1.2.2⟩⟩)), (rm_ (Kd.R_types HO323.out BK327.out (by decide)) (fun _ hk => ⟨hk.1.1, ⟨hk.1.2.1, hk.1.2.2⟩⟩)), (rm_ (Kd.R_types HO326.out BK327.out (by decide)) (fun _ hk => ⟨hk.1.1, ⟨hk.1.2.1, hk.1.2.2⟩⟩)), (sm_ (Kd.S_types HO330.out BK327.out (by decide)) (fun _ hk => ⟨hk.1.1, hk.1.2⟩)), (sm_ (Kd.S_types HO333.out BK327.out (by decide)) (fun _ hk => ⟨hk.1.1, hk.1.2⟩)), (sm_ (Kd.S_types HO336.out BK327.out (by decide)) (fun _ hk => ⟨hk.1.1, hk.1.2⟩)), (by (with_reducible repeat (first | refine blk_drewN ?_ _ | refine blk_drew ?_ | refine blk_alloc ?_ _)); refine blk_far ?_ NB308_327.out _; (with_reducible repeat (first | refine blk_drewN ?_ _ | refine blk_drew ?_ | refine blk_alloc ?_ _)); exact BK308.out), (by (with_reducible repeat (first | refine blk_drewN ?_ _ | refine blk_drew ?_ | refine blk_alloc ?_ _)); refine blk_far ?_ NB309_327.out _; (with_reducible repeat (first | refine blk_drewN ?_ _ | refine blk_drew ?_ | refine blk_alloc ?_ _)); exact BK309.out), (by (with_reducible repeat (first | refine blk_drewN ?_ _ | refine blk_drew ?_ | refine blk_alloc ?_ _)); refine blk_far ?_ NB310_327.out _; (with_reducible repeat (first | refine blk_drewN ?_ _ | refine blk_drew ?_ | refine blk_alloc ?_ _)); exact BK310.out), (by (with_reducible repeat (first | refine blk_drewN ?_ _ | refine blk_drew ?_ | refine blk_alloc ?_ _)); refine blk_put (cs := #[.int .i64 t313, .int .i64 t314, .slice Ao41 t315.length co41, .slice Ao40 t318.length co40, .slice Ao39 t321.length co39, v329, .slice none 0 0, .slice Ao38 y324.length co38, .slice none 0 0, .slice none 0 0, .int .i64 0]) ?_ 8 _ rfl; (with_reducible repeat (first | refine blk_drewN ?_ _ | refine blk_drew ?_ | refine blk_alloc ?_ _)); exact BK327.out), (by repeat (first | (with_reducible first | exact HB.out | apply below_alloc | apply pw_below_drewN | apply below_drew1 | refine below_set ?_ GE308.out | refine below_set ?_ GE309.out | refine below_set ?_ GE310.out | refine below_set ?_ GE327.out) | exact HB.out))⟩)
  rintro ⟨v329, v332, v335⟩ w65 ⟨h0_, h1_, h2_, h3_, h4_, h5_, h6_, h7_, h8_, h9_, h10_, h11_⟩
  replace HO317 : Aside0 (Kd.R (Kd.int .i64) 3 w65 w.heap.size (fun k_ => some k_ ≠ (.slice Ao40 t318.length co40 : Value).ownBlock ∧ some k_ ≠ (.slice Ao39 t321.length co39 : Value).ownBlock ∧ some k_ ≠ (.slice Ao38 y324.length co38 : Value).ownBlock) (.slice Ao41 t315.length co41) t315) := ⟨h0_⟩
  replace HO320 : Aside0 (Kd.R (Kd.int .i64) 3 w65 w.heap.size (fun k_ => some k_ ≠ (.slice Ao41 t315.length co41 : Value).ownBlock ∧ some k_ ≠ (.slice Ao39 t321.length co39 : Value).ownBlock ∧ some k_ ≠ (.slice Ao38 y324.length co38 : Value).ownBlock) (.slice Ao40 t318.length co40) t318) := ⟨h1_⟩
  replace HO323 : Aside0 (Kd.R (Kd.int .i64) 3 w65 w.heap.size (fun k_ => some k_ ≠ (.slice Ao41 t315.length co41 : Value).ownBlock ∧ some k_ ≠ (.slice Ao40 t318.length co40 : Value).ownBlock ∧ some k_ ≠ (.slice Ao38 y324.length co38 : Value).ownBlock) (.slice Ao39 t321.length co39) t321) := ⟨h2_⟩
  replace HO326 : Aside0 (Kd.R (Kd.int .i64) 3 w65 w.heap.size (fun k_ => some k_ ≠ (.slice Ao41 t315.length co41 : Value).ownBlock ∧ some k_ ≠ (.slice Ao40 t318.length co40 : Value).ownBlock ∧ some k_ ≠ (.slice Ao39 t321.length co39 : Value).ownBlock) (.slice Ao38 y324.length co38) y324) := ⟨h3_⟩
  have HO330 : Aside0 (Kd.S (Kd.slice 79 k79) 61 w65 w.heap.size (fun k_ => some k_ ≠ (v332 : Value).ownBlock ∧ some k_ ≠ (v335 : Value).ownBlock) v329 y328) := ⟨h4_⟩
  have HO333 : Aside0 (Kd.S (Kd.slice 79 k79) 61 w65 w.heap.size (fun k_ => some k_ ≠ (v329 : Value).ownBlock ∧ some k_ ≠ (v335 : Value).ownBlock) v332 y331) := ⟨h5_⟩
  have HO336 : Aside0 (Kd.S (Kd.slice 79 k79) 61 w65 w.heap.size (fun k_ => some k_ ≠ (v329 : Value).ownBlock ∧ some k_ ≠ (v332 : Value).ownBlock) v335 y334) := ⟨h6_⟩
  replace BK308 : Aside0 (w65.heap[gb308]? = some (.cells #[.int .i64 a0_0, .int .i64 a0_1, .slice A0_2 l0_2.length c0_2] 28 (0, 0))) := ⟨h7_⟩
  replace BK309 : Aside0 (w65.heap[gb309]? = some (.cells #[.slice A1_0 l1_0.length c1_0, .slice A1_1 l1_1.length c1_1] 32 (0, 0))) := ⟨h8_⟩
  replace BK310 : Aside0 (w65.heap[gb310]? = some (.cells #[.int .i64 0, .int .i64 0, .slice none 0 0, .slice none 0 0, .slice none 0 0, .slice none 0 0, .slice none 0 0, .slice none 0 0, .slice none 0 0, .slice none 0 0, .int .i64 0] 38 (0, 0))) := ⟨h9_⟩
  replace BK327 : Aside0 (w65.heap[gb327]? = some (.cells #[.int .i64 t313, .int .i64 t314, .slice Ao41 t315.length co41, .slice Ao40 t318.length co40, .slice Ao39 t321.length co39, v329, .slice none 0 0, .slice Ao38 y324.length co38, v332, .slice none 0 0, .int .i64 0] 38 (0, 0))) := ⟨h10_⟩
  replace HB : Aside0 (Below w.heap.size w w65) := ⟨h11_⟩
  clear h0_ h1_ h2_ h3_ h4_ h5_ h6_ h7_ h8_ h9_ h10_ h11_
  have hHeld := trivial
  obtain ⟨Ao66, co66, eo66⟩ := Kd.S_slice HO336.out
  (first | subst eo66 | (injection eo66 with f1_ f2_ f3_; have f4_ := f1_.symm; have f5_ := f3_.symm; clear f1_ f2_ f3_; subst f4_; subst f5_))
  refine norm_ (a' := ?_) ?_ ?_
  rotate_left
  ·simp only [putAll, Act.put, List.setIfInBounds_toArray, List.set_cons_zero, List.set_cons_succ]
   rfl
  refine pu_ 11 33 (bt_ 13 4095) HT_ ?_
  refine one_ (i := 12) (N := none) (bt_ 13 8191) rfl rfl (one_of HT_.out (by kernel_rfl)) (by decide) (fun K hK => ?_)
  have hs67 : w65.cell? ⟨gb327, 9, none⟩ = some (.slice none 0 0) := (blk_cell BK327.out 9).trans rfl
  have hfs67 := blk_frozen BK327.out 9
  have hns67_0 := NB308_327.out
  have hns67_1 := NB309_327.out
  have hns67_2 := NB310_327.out
  have hms67_0 := NB327_308.out
  have hms67_1 := NB327_309.out
  have hms67_2 := NB327_310.out
  refine skip_ (w1 := ?_) (by rfl) rfl ?_ ?_
  rotate_left
  ·go_simp
   rfl
  refine hK.out _ _ trivial (fun hHeld => ?_)
  clear hK K
  refine done_ (done_of HT_.out (by kernel_rfl)) ?_
  try go_wp2
  exact impl_NetNew.ez
 ·replace c4 := Bool.eq_false_iff.mpr c4
  subst c4
  rw [if_neg (show ¬ (false = true) by decide)] at H
  simp only [Option.some.injEq, Prod.mk.injEq] at H
  obtain ⟨rfl, rfl, rfl, rfl, rfl, rfl, rfl, rfl, rfl, rfl, rfl, rfl⟩ := H
  exact impl_NetNew.ey

end Go.Proofs.Ytchhgfgebomegaa.PFnSends
-- thin
