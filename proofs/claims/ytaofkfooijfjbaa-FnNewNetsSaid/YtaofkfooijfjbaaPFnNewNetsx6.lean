/- The law's functions as plain functions, and their calls. No condition. -/
import Derived.Test.YtaofkfooijfjbaaPFnNewNetsx0
import Derived.Test.YtaofkfooijfjbaaPFnNewNetsx3
import Derived.Test.YtaofkfooijfjbaaPFnNewNetsx5
import Derived.Test.YtaofkfooijfjbaaPFnNewNetsx61
namespace Go.Proofs.Ytaofkfooijfjbaa.PFnNewNets
open Go.RowKit Go.Proofs.YtaofkfooijfjbaaW.PrintWords Go.Proofs.YtaofkfooijfjbaaW.PrintLast Go.Proofs.YtaofkfooijfjbaaW.PrintMore
attribute [local go_sem] max2_int min2_int max_two min_two max_three min_three max_four min_four
set_option linter.unusedVariables false
set_option maxHeartbeats 8000000
set_option maxRecDepth 100000
set_option linter.unusedSimpArgs false

/-! ### impl_NetNew: function 10 -/
def impl_NetNew.l0 : Nat → Int → Int → Int → Int → List Int → List Int → List Int → List (List (S112)) → List Int → List Int → List (List (S112)) → List (List (S112)) → Int → Option (Int × Int × List Int × List Int × List Int × (List (List (S112))) × List Int × List Int × (List (List (S112))) × (List (List (S112))) × Int × Bool)
 | 0, _, _, _, _, _, _, _, _, _, _, _, _, _ => none
 | k + 1, x35, x36, x298000, x298001, x298002, x298003, x298004, x298005, x298006, x298007, x298008, x298009, x298010 => if x36 < x35 then (if x298006.length < 17592186044416 then (impl_NetNew.l0 k x35 (wrap64 (x36 + 1)) x298000 x298001 x298002 x298003 x298004 x298005 (x298006 ++ [(-1)]) x298007 x298008 x298009 x298010) else (none)) else (some (x298000, x298001, x298002, x298003, x298004, x298005, x298006, x298007, x298008, x298009, x298010, true))
def impl_NetNew.f (k : Nat) (a0_0 : Int) (a0_1 : Int) (l0_2 : List Int) (l1_0 : List Int) (l1_1 : List Int) : Option (Int × Int × List Int × List Int × List Int × (List (List (S112))) × List Int × List Int × (List (List (S112))) × (List (List (S112))) × Int × Bool) := (impl_ClassesOk.f k a0_0 a0_1 l0_2 l1_0 l1_1).bind fun t281 => (if t281 = true then ((impl_NodeCount.f a0_0 a0_1).bind fun t282 => ((impl_copyMesh.f a0_0 a0_1 l0_2).bind fun bt283 => ((impl_copyClasses.f l1_0 l1_1).bind fun bt288 => (if 0 ≤ (wrap64 (5 * t282)) then (if (wrap64 (5 * t282) : Int).toNat ≤ 35184372088832 then (if 0 ≤ (wrap64 (10 * t282)) then (if (wrap64 (10 * t282) : Int).toNat ≤ 11728124029610 then (if 0 ≤ t282 then (if (t282 : Int).toNat ≤ 11728124029610 then (impl_NetNew.l0 k (wrap64 (10 * t282)) 0 bt283.1 bt283.2.1 bt283.2.2 bt288.1 bt288.2 (List.replicate (wrap64 (10 * t282) : Int).toNat []) ([] : List Int) (List.replicate (wrap64 (5 * t282) : Int).toNat 0) (List.replicate (t282 : Int).toNat []) (List.replicate (t282 : Int).toNat []) 0) else (none)) else (none)) else (none)) else (none)) else (none)) else (none))))) else (some (0, 0, ([] : List Int), ([] : List Int), ([] : List Int), ([] : List (List (S112))), ([] : List Int), ([] : List Int), ([] : List (List (S112))), ([] : List (List (S112))), 0, false)))
theorem impl_NetNew.mono_l : ∀ k, (∀ y0 y1 y2 y3 y4 y5 y6 y7 y8 y9 y10 y11 y12, LeO (impl_NetNew.l0 k y0 y1 y2 y3 y4 y5 y6 y7 y8 y9 y10 y11 y12) (impl_NetNew.l0 (k + 1) y0 y1 y2 y3 y4 y5 y6 y7 y8 y9 y10 y11 y12))
 | 0 => fun _ _ _ _ _ _ _ _ _ _ _ _ _ r h => by simp [impl_NetNew.l0] at h
 | k + 1 => by
  have ih0 := impl_NetNew.mono_l k
  ·intro y0 y1 y2 y3 y4 y5 y6 y7 y8 y9 y10 y11 y12
   unfold impl_NetNew.l0
   repeat' (with_reducible first | exact ih0 .. | exact impl_ClassesOk.mono .. | exact LeO.refl .. | exact LeO.none .. | refine LeO.ite ?_ ?_ | refine LeO.bind ?_ (fun _ => ?_))
theorem impl_NetNew.mono : ∀ a0 a1 a2 a3 a4 k, LeO (impl_NetNew.f k a0 a1 a2 a3 a4) (impl_NetNew.f (k + 1) a0 a1 a2 a3 a4) := by
 intro a0 a1 a2 a3 a4 k
 have ih0 := impl_NetNew.mono_l k
 unfold impl_NetNew.f
 repeat' (with_reducible first | exact ih0 .. | exact impl_ClassesOk.mono .. | exact LeO.refl .. | exact LeO.none .. | refine LeO.ite ?_ ?_ | refine LeO.bind ?_ (fun _ => ?_))
def impl_NetNew.T4 : Bool × List (List Nat × List Nat) := (true, [([], []), ([0], [0]), ([], []), ([2, 1], [2]), ([], []), ([4], [4]), ([5, 5], [5]), ([1, 3, 6], [1, 3, 6]), ([], []), ([8, 7, 3, 0, 1, 2, 3, 4, 5, 6, 7, 8], [7, 8])])
def impl_NetNew.B4 : List Nat := [0, 1, 0, 7, 0, 16, 48, 127, 0, 511]
theorem impl_NetNew.tab4 : rtab .any (opsOf Try.f10 4) = impl_NetNew.T4 := by kernel_rfl
theorem impl_NetNew.bits4 : waitsOk impl_NetNew.T4.2 impl_NetNew.B4 = true := by kernel_rfl
def impl_NetNew.T5 : Bool × List (List Nat × List Nat) := (true, [([], []), ([0], [0]), ([1, 1], [1]), ([], []), ([3, 3], [3]), ([], []), ([5, 5], [5]), ([0, 1, 2], []), ([7, 2, 0, 1, 2], [2, 7]), ([0, 1, 2, 3, 4, 7, 8], []), ([9, 4, 8, 0, 1, 2, 3, 4, 7, 8], [4, 9]), ([0, 1, 2, 3, 4, 5, 6, 7, 8, 9, 10], []), ([11, 6, 10, 0, 1, 2, 3, 4, 5, 6, 7, 8, 9, 10], [6, 11])])
def impl_NetNew.B5 : List Nat := [0, 1, 3, 0, 8, 0, 32, 7, 135, 415, 927, 2047, 4095]
theorem impl_NetNew.tab5 : rtab .any (opsOf Try.f10 5) = impl_NetNew.T5 := by kernel_rfl
theorem impl_NetNew.bits5 : waitsOk impl_NetNew.T5.2 impl_NetNew.B5 = true := by kernel_rfl
theorem impl_NetNew.calls (k : Nat) (a0_0 : Int) (a0_1 : Int) (A0_2 : Option Addr) (c0_2 : Nat) (l0_2 : List Int) (A1_0 : Option Addr) (c1_0 : Nat) (l1_0 : List Int) (A1_1 : Option Addr) (c1_1 : Nat) (l1_1 : List Int) (r1 : Int) (r2 : Int) (r3 : List Int) (r4 : List Int) (r5 : List Int) (r6 : List (List (S112))) (r7 : List Int) (r8 : List Int) (r9 : List (List (S112))) (r10 : List (List (S112))) (r11 : Int) (r12 : Bool) (w : World) (hr0_2 : Kd.C (Kd.int .i64) w A0_2 l0_2.length l0_2) (hc0_2 : l0_2.length ≤ c0_2) (hr1_0 : Kd.C (Kd.int .i64) w A1_0 l1_0.length l1_0) (hc1_0 : l1_0.length ≤ c1_0) (hr1_1 : Kd.C (Kd.int .i64) w A1_1 l1_1.length l1_1) (hc1_1 : l1_1.length ≤ c1_1) (h : impl_NetNew.f k a0_0 a0_1 l0_2 l1_0 l1_1 = some (r1, r2, r3, r4, r5, r6, r7, r8, r9, r10, r11, r12)) :
  Calls Try.prog 10 #[.agg #[.int .i64 a0_0, .int .i64 a0_1, .slice A0_2 l0_2.length c0_2], .agg #[.slice A1_0 l1_0.length c1_0, .slice A1_1 l1_1.length c1_1]] w fun e w' => ∃ v2_ v3_ v4_ v5_ v6_ v7_ v8_ v9_ : Value, e = .returned (.tuple #[.agg #[.int .i64 r1, .int .i64 r2, v2_, v3_, v4_, v5_, v6_, v7_, v8_, v9_, .int .i64 r11], .bool r12]) ∧ Kd.R (Kd.int .i64) 3 w' w.heap.size (fun k_ => some k_ ≠ (v3_ : Value).ownBlock ∧ some k_ ≠ (v4_ : Value).ownBlock ∧ some k_ ≠ (v6_ : Value).ownBlock ∧ some k_ ≠ (v7_ : Value).ownBlock) v2_ r3 ∧ Kd.R (Kd.int .i64) 3 w' w.heap.size (fun k_ => some k_ ≠ (v2_ : Value).ownBlock ∧ some k_ ≠ (v4_ : Value).ownBlock ∧ some k_ ≠ (v6_ : Value).ownBlock ∧ some k_ ≠ (v7_ : Value).ownBlock) v3_ r4 ∧ Kd.R (Kd.int .i64) 3 w' w.heap.size (fun k_ => some k_ ≠ (v2_ : Value).ownBlock ∧ some k_ ≠ (v3_ : Value).ownBlock ∧ some k_ ≠ (v6_ : Value).ownBlock ∧ some k_ ≠ (v7_ : Value).ownBlock) v4_ r5 ∧ Kd.S (Kd.slice 112 k112) 81 w' w.heap.size (fun k_ => some k_ ≠ (v8_ : Value).ownBlock ∧ some k_ ≠ (v9_ : Value).ownBlock) v5_ r6 ∧ Kd.R (Kd.int .i64) 3 w' w.heap.size (fun k_ => some k_ ≠ (v2_ : Value).ownBlock ∧ some k_ ≠ (v3_ : Value).ownBlock ∧ some k_ ≠ (v4_ : Value).ownBlock ∧ some k_ ≠ (v7_ : Value).ownBlock) v6_ r7 ∧ Kd.R (Kd.int .i64) 3 w' w.heap.size (fun k_ => some k_ ≠ (v2_ : Value).ownBlock ∧ some k_ ≠ (v3_ : Value).ownBlock ∧ some k_ ≠ (v4_ : Value).ownBlock ∧ some k_ ≠ (v6_ : Value).ownBlock) v7_ r8 ∧ Kd.S (Kd.slice 112 k112) 81 w' w.heap.size (fun k_ => some k_ ≠ (v5_ : Value).ownBlock ∧ some k_ ≠ (v9_ : Value).ownBlock) v8_ r9 ∧ Kd.S (Kd.slice 112 k112) 81 w' w.heap.size (fun k_ => some k_ ≠ (v5_ : Value).ownBlock ∧ some k_ ≠ (v8_ : Value).ownBlock) v9_ r10 ∧ Below w.heap.size w w' := by
 have hu28 := Try.underlying28
 have hu32 := Try.underlying32
 have hu37 := Try.underlying37
 have hu25 := Try.underlying25
 have HR0_2 := Aside0.mk hr0_2
 have HC0_2 := Aside0.mk hc0_2
 clear hr0_2 hc0_2
 have HR1_0 := Aside0.mk hr1_0
 have HC1_0 := Aside0.mk hc1_0
 clear hr1_0 hc1_0
 have HR1_1 := Aside0.mk hr1_1
 have HC1_1 := Aside0.mk hc1_1
 clear hr1_1 hc1_1
 have HB := Aside0.mk (Below.refl w.heap.size w)
 have H : ((impl_ClassesOk.f k a0_0 a0_1 l0_2 l1_0 l1_1).bind fun t281 => (if t281 = true then ((impl_NodeCount.f a0_0 a0_1).bind fun t282 => ((impl_copyMesh.f a0_0 a0_1 l0_2).bind fun bt283 => ((impl_copyClasses.f l1_0 l1_1).bind fun bt288 => (if 0 ≤ (wrap64 (5 * t282)) then (if (wrap64 (5 * t282) : Int).toNat ≤ 35184372088832 then (if 0 ≤ (wrap64 (10 * t282)) then (if (wrap64 (10 * t282) : Int).toNat ≤ 11728124029610 then (if 0 ≤ t282 then (if (t282 : Int).toNat ≤ 11728124029610 then (impl_NetNew.l0 k (wrap64 (10 * t282)) 0 bt283.1 bt283.2.1 bt283.2.2 bt288.1 bt288.2 (List.replicate (wrap64 (10 * t282) : Int).toNat []) ([] : List Int) (List.replicate (wrap64 (5 * t282) : Int).toNat 0) (List.replicate (t282 : Int).toNat []) (List.replicate (t282 : Int).toNat []) 0) else (none)) else (none)) else (none)) else (none)) else (none)) else (none))))) else (some (0, 0, ([] : List Int), ([] : List Int), ([] : List Int), ([] : List (List (S112))), ([] : List Int), ([] : List Int), ([] : List (List (S112))), ([] : List (List (S112))), 0, false)))) = some (r1, r2, r3, r4, r5, r6, r7, r8, r9, r10, r11, r12) := h
 clear h
 obtain ⟨t281, A3, H⟩ := bi_ H
 by_cases c4 : t281 = true
 ·subst c4
  rw [if_pos rfl] at H
  obtain ⟨t282, A5, H⟩ := bi_ H
  obtain ⟨⟨t283, t284, t285⟩, A6, H⟩ := bi_ H
  try dsimp only at H
  obtain ⟨⟨t288, t291⟩, A7, H⟩ := bi_ H
  try dsimp only at H
  obtain ⟨ji8, hji8⟩ : ∃ j_ : Int, (wrap64 (5 * t282)) = j_ := ⟨_, rfl⟩
  replace H : (if 0 ≤ (ji8) then (if (ji8 : Int).toNat ≤ 35184372088832 then (if 0 ≤ (wrap64 (10 * t282)) then (if (wrap64 (10 * t282) : Int).toNat ≤ 11728124029610 then (if 0 ≤ t282 then (if (t282 : Int).toNat ≤ 11728124029610 then (impl_NetNew.l0 k (wrap64 (10 * t282)) 0 t283 t284 t285 t288 t291 (List.replicate (wrap64 (10 * t282) : Int).toNat []) ([] : List Int) (List.replicate (ji8 : Int).toNat 0) (List.replicate (t282 : Int).toNat []) (List.replicate (t282 : Int).toNat []) 0) else (none)) else (none)) else (none)) else (none)) else (none)) else (none)) = some (r1, r2, r3, r4, r5, r6, r7, r8, r9, r10, r11, r12) := by first | (rw [hji8] at H; exact H) | (simp only [hji8] at H ⊢; exact H)
  (try rw [hji8] at A3)
  (try rw [hji8] at A5)
  (try rw [hji8] at A6)
  (try rw [hji8] at A7)
  have hji8w : (IntKind.i64.wrap (5 * t282)) = ji8 := (i64_w _).trans hji8
  by_cases c9 : 0 ≤ (ji8)
  rotate_left
  ·rw [if_neg c9] at H
   exact absurd H (by simp)
  rw [if_pos c9] at H
  have c9b0 := eq_true c9
  have c9b1 : decide (0 ≤ (ji8)) = true := decide_eq_true c9
  clear c9
  by_cases c10 : (ji8 : Int).toNat ≤ 35184372088832
  rotate_left
  ·rw [if_neg c10] at H
   exact absurd H (by simp)
  rw [if_pos c10] at H
  have c10b0 := eq_true c10
  have c10b1 : decide ((ji8 : Int).toNat ≤ 35184372088832) = true := decide_eq_true c10
  clear c10
  obtain ⟨y294, hy294⟩ : ∃ y_ : List Int, y_ = (List.replicate (ji8 : Int).toNat 0) := ⟨_, rfl⟩
  replace H : (if 0 ≤ (wrap64 (10 * t282)) then (if (wrap64 (10 * t282) : Int).toNat ≤ 11728124029610 then (if 0 ≤ t282 then (if (t282 : Int).toNat ≤ 11728124029610 then (impl_NetNew.l0 k (wrap64 (10 * t282)) 0 t283 t284 t285 t288 t291 (List.replicate (wrap64 (10 * t282) : Int).toNat []) ([] : List Int) y294 (List.replicate (t282 : Int).toNat []) (List.replicate (t282 : Int).toNat []) 0) else (none)) else (none)) else (none)) else (none)) = some (r1, r2, r3, r4, r5, r6, r7, r8, r9, r10, r11, r12) := by first | (rw [hy294]; with_reducible exact H) | (have H2_ := (Option.bind_some _ _).symm.trans H; rw [hy294]; with_reducible exact H2_) | (have H2_ := (Option.bind_some _ _).symm.trans H; with_reducible exact H2_) | with_reducible exact H | (rw [hy294]; exact H) | exact H
  have Ny294 := Aside0.mk hy294
  clear hy294
  obtain ⟨ji11, hji11⟩ : ∃ j_ : Int, (wrap64 (10 * t282)) = j_ := ⟨_, rfl⟩
  replace H : (if 0 ≤ (ji11) then (if (ji11 : Int).toNat ≤ 11728124029610 then (if 0 ≤ t282 then (if (t282 : Int).toNat ≤ 11728124029610 then (impl_NetNew.l0 k ji11 0 t283 t284 t285 t288 t291 (List.replicate (ji11 : Int).toNat []) ([] : List Int) y294 (List.replicate (t282 : Int).toNat []) (List.replicate (t282 : Int).toNat []) 0) else (none)) else (none)) else (none)) else (none)) = some (r1, r2, r3, r4, r5, r6, r7, r8, r9, r10, r11, r12) := by first | (rw [hji11] at H; exact H) | (simp only [hji11] at H ⊢; exact H)
  (try rw [hji11] at A3)
  (try rw [hji11] at A5)
  (try rw [hji11] at A6)
  (try rw [hji11] at A7)
  have hji11w : (IntKind.i64.wrap (10 * t282)) = ji11 := (i64_w _).trans hji11
  by_cases c12 : 0 ≤ (ji11)
  rotate_left
  ·rw [if_neg c12] at H
   exact absurd H (by simp)
  rw [if_pos c12] at H
  have c12b0 := eq_true c12
  have c12b1 : decide (0 ≤ (ji11)) = true := decide_eq_true c12
  clear c12
  by_cases c13 : (ji11 : Int).toNat ≤ 11728124029610
  rotate_left
  ·rw [if_neg c13] at H
   exact absurd H (by simp)
  rw [if_pos c13] at H
  have c13b0 := eq_true c13
  have c13b1 : decide ((ji11 : Int).toNat ≤ 11728124029610) = true := decide_eq_true c13
  clear c13
  obtain ⟨y298, hy298⟩ : ∃ y_ : List (List (S112)), y_ = (List.replicate (ji11 : Int).toNat []) := ⟨_, rfl⟩
  replace H : (if 0 ≤ t282 then (if (t282 : Int).toNat ≤ 11728124029610 then (impl_NetNew.l0 k ji11 0 t283 t284 t285 t288 t291 y298 ([] : List Int) y294 (List.replicate (t282 : Int).toNat []) (List.replicate (t282 : Int).toNat []) 0) else (none)) else (none)) = some (r1, r2, r3, r4, r5, r6, r7, r8, r9, r10, r11, r12) := by first | (rw [hy298]; with_reducible exact H) | (have H2_ := (Option.bind_some _ _).symm.trans H; rw [hy298]; with_reducible exact H2_) | (have H2_ := (Option.bind_some _ _).symm.trans H; with_reducible exact H2_) | with_reducible exact H | (rw [hy298]; exact H) | exact H
  have Ny298 := Aside0.mk hy298
  clear hy298
  by_cases c14 : 0 ≤ t282
  rotate_left
  ·rw [if_neg c14] at H
   exact absurd H (by simp)
  rw [if_pos c14] at H
  have c14b0 := eq_true c14
  have c14b1 : decide (0 ≤ t282) = true := decide_eq_true c14
  clear c14
  by_cases c15 : (t282 : Int).toNat ≤ 11728124029610
  rotate_left
  ·rw [if_neg c15] at H
   exact absurd H (by simp)
  rw [if_pos c15] at H
  have c15b0 := eq_true c15
  have c15b1 : decide ((t282 : Int).toNat ≤ 11728124029610) = true := decide_eq_true c15
  clear c15
  obtain ⟨y301, hy301⟩ : ∃ y_ : List (List (S112)), y_ = (List.replicate (t282 : Int).toNat []) := ⟨_, rfl⟩
  replace H : (impl_NetNew.l0 k ji11 0 t283 t284 t285 t288 t291 y298 ([] : List Int) y294 y301 (List.replicate (t282 : Int).toNat []) 0) = some (r1, r2, r3, r4, r5, r6, r7, r8, r9, r10, r11, r12) := by first | (rw [hy301]; with_reducible exact H) | (have H2_ := (Option.bind_some _ _).symm.trans H; rw [hy301]; with_reducible exact H2_) | (have H2_ := (Option.bind_some _ _).symm.trans H; with_reducible exact H2_) | with_reducible exact H | (rw [hy301]; exact H) | exact H
  have Ny301 := Aside0.mk hy301
  clear hy301
  obtain ⟨y304, hy304⟩ : ∃ y_ : List (List (S112)), y_ = (List.replicate (t282 : Int).toNat []) := ⟨_, rfl⟩
  replace H : (impl_NetNew.l0 k ji11 0 t283 t284 t285 t288 t291 y298 ([] : List Int) y294 y301 y304 0) = some (r1, r2, r3, r4, r5, r6, r7, r8, r9, r10, r11, r12) := by first | (rw [hy304]; with_reducible exact H) | (have H2_ := (Option.bind_some _ _).symm.trans H; rw [hy304]; with_reducible exact H2_) | (have H2_ := (Option.bind_some _ _).symm.trans H; with_reducible exact H2_) | with_reducible exact H | (rw [hy304]; exact H) | exact H
  have Ny304 := Aside0.mk hy304
  clear hy304
  have H' := Aside0.mk H
  clear H
  go_enter Try.func10, Try.ntmps10
  try go_wp2_with (first | ((with_reducible refine gate_dst (N := 2) rfl ?_); refine box_event ?hg (N := 2) ?hd (cs := #[.int .i64 a0_0, .int .i64 a0_1, .slice A0_2 l0_2.length c0_2]) (t := 28) ?hr ?_; (case hd => rfl); (case hg => rfl); (case hr => first | (go_simp; done) | (go_simp; rfl)); intro gb278 hg w16 hbox hb; have BK278 := Aside0.mk (hbox); have GW278 := gw_ hg HB; replace HB := hs_ HB hb; clear hb hbox hg) | ((with_reducible refine gate_dst (N := 3) rfl ?_); refine box_event ?hg (N := 3) ?hd (cs := #[.slice A1_0 l1_0.length c1_0, .slice A1_1 l1_1.length c1_1]) (t := 32) ?hr ?_; (case hd => rfl); (case hg => rfl); (case hr => first | (go_simp; done) | (go_simp; rfl)); intro gb279 hg w17 hbox hb; have BK279 := Aside0.mk (hbox); have GW279 := gw_ hg HB; replace HB := hs_ HB hb; have NB278_279 := nl_ hg BK278; have NB279_278 := ng_ hg BK278; replace BK278 := kb_ BK278 hb; clear hb hbox hg) | ((with_reducible refine gate_dst (N := 4) rfl ?_); refine box_event ?hg (N := 4) ?hd (cs := #[.int .i64 0, .int .i64 0, .slice none 0 0, .slice none 0 0, .slice none 0 0, .slice none 0 0, .slice none 0 0, .slice none 0 0, .slice none 0 0, .slice none 0 0, .int .i64 0]) (t := 37) ?hr ?_; (case hd => rfl); (case hg => rfl); (case hr => first | (go_simp; done) | (go_simp; rfl)); intro gb280 hg w18 hbox hb; have BK280 := Aside0.mk (hbox); have GW280 := gw_ hg HB; replace HB := hs_ HB hb; have NB278_280 := nl_ hg BK278; have NB280_278 := ng_ hg BK278; replace BK278 := kb_ BK278 hb; have NB279_280 := nl_ hg BK279; have NB280_279 := ng_ hg BK279; replace BK279 := kb_ BK279 hb; clear hb hbox hg; have hnb19 := NB278_279.out; have hnc19 := NB279_278.out; have hnb20 := NB278_280.out; have hnc20 := NB280_278.out; obtain ⟨hcz21_0, hcz21_1, hcz21_2, hfz21_0, hfz21_1, hfz21_2⟩ := cz3_ BK278.out; have hnb22 := NB279_280.out; have hnc22 := NB280_279.out; obtain ⟨hcz23_0, hcz23_1, hfz23_0, hfz23_1⟩ := cz2_ BK279.out) | ((with_reducible refine gate_callee (f := 41) rfl ?_); refine gm_ (some 10) Try.func41 #[.agg #[.int .i64 a0_0, .int .i64 a0_1, .slice A0_2 l0_2.length c0_2], .agg #[.slice A1_0 l1_0.length c1_0, .slice A1_1 l1_1.length c1_1]] rfl ?_; (with_reducible refine (impl_ClassesOk.calls k a0_0 a0_1 _ _ l0_2 _ _ l1_0 _ _ l1_1 true _ ?side1 HC0_2.out ?side3 HC1_0.out ?side5 HC1_1.out A3.out).mono ?_); (case side1 => exact cb_ HR0_2.out HB.out); (case side3 => exact cb_ HR1_0.out HB.out); (case side5 => exact cb_ HR1_1.out HB.out); rintro e w24 ⟨rfl, hb⟩; refine ⟨_, rfl, ?_⟩; replace BK278 := kb_ BK278 hb; replace BK279 := kb_ BK279 hb; replace BK280 := kb_ BK280 hb; replace HB := hs_ HB hb; (try clear hb); obtain ⟨hcz25_0, hcz25_1, hcz25_2, hfz25_0, hfz25_1, hfz25_2⟩ := cz3_ BK278.out) | ((with_reducible refine gate_callee (f := 42) rfl ?_); refine gm_ (some 15) Try.func42 #[.agg #[.int .i64 a0_0, .int .i64 a0_1]] rfl ?_; (with_reducible refine (impl_NodeCount.calls a0_0 a0_1 t282 _ A5.out).mono ?_); rintro e w26 ⟨rfl, hb⟩; refine ⟨_, rfl, ?_⟩; replace BK278 := kb_ BK278 hb; replace BK279 := kb_ BK279 hb; replace BK280 := kb_ BK280 hb; replace HB := hs_ HB hb; (try clear hb)))
  replace BK278 := Aside0.mk (blk_drew BK278.out)
  replace BK279 := Aside0.mk (blk_drew BK279.out)
  replace BK280 := Aside0.mk (blk_drew BK280.out)
  replace HB := Aside0.mk (below_drew1 HB.out)
  refine start_ (n := 10) (S := fun w' => w'.cell? ⟨gb278, 0, none⟩ = some (.int .i64 a0_0) ∧ w'.cell? ⟨gb278, 1, none⟩ = some (.int .i64 a0_1) ∧ w'.cell? ⟨gb278, 2, none⟩ = some (.slice A0_2 l0_2.length c0_2) ∧ w'.cell? ⟨gb279, 0, none⟩ = some (.slice A1_0 l1_0.length c1_0) ∧ w'.cell? ⟨gb279, 1, none⟩ = some (.slice A1_1 l1_1.length c1_1)) (ds := []) #[false, false, false, false, false, false, false, false, false, false] (by kernel_rfl) rfl rfl ⟨(blk_cell BK278.out 0).trans rfl, (blk_cell BK278.out 1).trans rfl, (blk_cell BK278.out 2).trans rfl, (blk_cell BK279.out 0).trans rfl, (blk_cell BK279.out 1).trans rfl⟩ (fun hHeld => ?_); refine with_tabW impl_NetNew.tab4 impl_NetNew.bits4 (fun HT_ HW_ => ?_)
  generalize w26.drew = w27 at BK278 BK279 BK280 HB hHeld ⊢
  refine pu_ 4 20 (bt_ 10 16) HT_ ?_
  refine pu_ 5 21 (bt_ 10 48) HT_ ?_
  refine take_ (i := 0) (N := some 16) (v := ?_) (a' := ?_) (bt_ 10 49) rfl rfl (take_ofW HT_.out HW_.out (by kernel_rfl)) (fun _ _ _ h => h) (Or.inl ⟨by rfl, ?_⟩) hHeld ?_ ?_
  rotate_left
  ·rintro w' ⟨s0, s1, s2, s3, s4⟩
   go_simp
   with_reducible rfl
  rotate_left
  ·simp only [Act.put, List.setIfInBounds_toArray, List.set_cons_zero, List.set_cons_succ, i64_w, i32_w]
   rfl
  refine take_ (i := 2) (N := some 18) (v := ?_) (a' := ?_) (bt_ 10 53) rfl rfl (take_ofW HT_.out HW_.out (by kernel_rfl)) (fun _ _ _ h => h) (Or.inl ⟨by rfl, ?_⟩) hHeld ?_ ?_
  rotate_left
  ·rintro w' ⟨s0, s1, s2, s3, s4⟩
   go_simp
   with_reducible rfl
  rotate_left
  ·simp only [Act.put, List.setIfInBounds_toArray, List.set_cons_zero, List.set_cons_succ, i64_w, i32_w]
   rfl
  refine join_ (σ := Value × Value × Value × Value × Nat) 1 #[true, true, true, true, true, true, true, true, true, false] (fun s_ => [(17, .agg #[.int .i64 t283, .int .i64 t284, s_.1]), (19, .agg #[s_.2.1, s_.2.2.1]), (22, s_.2.2.2.1), (7, .pointer (some ⟨s_.2.2.2.2, 0, none⟩)), (23, .agg #[.int .i64 t283, .int .i64 t284, s_.1, s_.2.1, s_.2.2.1, .slice none 0 0, .slice none 0 0, s_.2.2.2.1, .slice none 0 0, .slice none 0 0, .int .i64 0])]) (fun s_ w' => (w'.cell? ⟨gb278, 0, none⟩ = some (.int .i64 a0_0) ∧ w'.cell? ⟨gb278, 1, none⟩ = some (.int .i64 a0_1) ∧ w'.cell? ⟨gb278, 2, none⟩ = some (.slice A0_2 l0_2.length c0_2) ∧ w'.cell? ⟨gb279, 0, none⟩ = some (.slice A1_0 l1_0.length c1_0) ∧ w'.cell? ⟨gb279, 1, none⟩ = some (.slice A1_1 l1_1.length c1_1)) ∧ (Kd.R (Kd.int .i64) 3 w' w.heap.size (fun k_ => some k_ ≠ (s_.2.1 : Value).ownBlock ∧ some k_ ≠ (s_.2.2.1 : Value).ownBlock ∧ some k_ ≠ (s_.2.2.2.1 : Value).ownBlock) s_.1 t285) ∧ (Kd.R (Kd.int .i64) 3 w' w.heap.size (fun k_ => some k_ ≠ (s_.1 : Value).ownBlock ∧ some k_ ≠ (s_.2.2.1 : Value).ownBlock ∧ some k_ ≠ (s_.2.2.2.1 : Value).ownBlock) s_.2.1 t288) ∧ (Kd.R (Kd.int .i64) 3 w' w.heap.size (fun k_ => some k_ ≠ (s_.1 : Value).ownBlock ∧ some k_ ≠ (s_.2.1 : Value).ownBlock ∧ some k_ ≠ (s_.2.2.2.1 : Value).ownBlock) s_.2.2.1 t291) ∧ (Kd.R (Kd.int .i64) 3 w' w.heap.size (fun k_ => some k_ ≠ (s_.1 : Value).ownBlock ∧ some k_ ≠ (s_.2.1 : Value).ownBlock ∧ some k_ ≠ (s_.2.2.1 : Value).ownBlock) s_.2.2.2.1 y294) ∧ (w'.heap[gb278]? = some (.cells #[.int .i64 a0_0, .int .i64 a0_1, .slice A0_2 l0_2.length c0_2] 28 (0, 0))) ∧ (w'.heap[gb279]? = some (.cells #[.slice A1_0 l1_0.length c1_0, .slice A1_1 l1_1.length c1_1] 32 (0, 0))) ∧ (w'.heap[gb280]? = some (.cells #[.int .i64 0, .int .i64 0, .slice none 0 0, .slice none 0 0, .slice none 0 0, .slice none 0 0, .slice none 0 0, .slice none 0 0, .slice none 0 0, .slice none 0 0, .int .i64 0] 37 (0, 0))) ∧ (w'.heap[s_.2.2.2.2]? = some (.cells #[.int .i64 0, .int .i64 0, .slice none 0 0, .slice none 0 0, .slice none 0 0, .slice none 0 0, .slice none 0 0, .slice none 0 0, .slice none 0 0, .slice none 0 0, .int .i64 0] 37 (0, 0))) ∧ (w.heap.size ≤ s_.2.2.2.2) ∧ (w.heap.size ≤ s_.2.2.2.2) ∧ (gb278 ≠ s_.2.2.2.2) ∧ (s_.2.2.2.2 ≠ gb278) ∧ (gb279 ≠ s_.2.2.2.2) ∧ (s_.2.2.2.2 ≠ gb279) ∧ (gb280 ≠ s_.2.2.2.2) ∧ (s_.2.2.2.2 ≠ gb280) ∧ (Below w.heap.size w w')) ?_ ?_
  rotate_left
  ·intro hJ1_3_6_8
   refine join_ (σ := Value × Value × Value × Value) 2 #[true, true, true, true, true, true, true, true, false, false] (fun s_ => [(17, .agg #[.int .i64 t283, .int .i64 t284, s_.1]), (19, .agg #[s_.2.1, s_.2.2.1]), (22, s_.2.2.2), (23, .agg #[.int .i64 t283, .int .i64 t284, s_.1, s_.2.1, s_.2.2.1, .slice none 0 0, .slice none 0 0, s_.2.2.2, .slice none 0 0, .slice none 0 0, .int .i64 0])]) (fun s_ w' => (w'.cell? ⟨gb278, 0, none⟩ = some (.int .i64 a0_0) ∧ w'.cell? ⟨gb278, 1, none⟩ = some (.int .i64 a0_1) ∧ w'.cell? ⟨gb278, 2, none⟩ = some (.slice A0_2 l0_2.length c0_2) ∧ w'.cell? ⟨gb279, 0, none⟩ = some (.slice A1_0 l1_0.length c1_0) ∧ w'.cell? ⟨gb279, 1, none⟩ = some (.slice A1_1 l1_1.length c1_1)) ∧ (Kd.R (Kd.int .i64) 3 w' w.heap.size (fun k_ => some k_ ≠ (s_.2.1 : Value).ownBlock ∧ some k_ ≠ (s_.2.2.1 : Value).ownBlock ∧ some k_ ≠ (s_.2.2.2 : Value).ownBlock) s_.1 t285) ∧ (Kd.R (Kd.int .i64) 3 w' w.heap.size (fun k_ => some k_ ≠ (s_.1 : Value).ownBlock ∧ some k_ ≠ (s_.2.2.1 : Value).ownBlock ∧ some k_ ≠ (s_.2.2.2 : Value).ownBlock) s_.2.1 t288) ∧ (Kd.R (Kd.int .i64) 3 w' w.heap.size (fun k_ => some k_ ≠ (s_.1 : Value).ownBlock ∧ some k_ ≠ (s_.2.1 : Value).ownBlock ∧ some k_ ≠ (s_.2.2.2 : Value).ownBlock) s_.2.2.1 t291) ∧ (Kd.R (Kd.int .i64) 3 w' w.heap.size (fun k_ => some k_ ≠ (s_.1 : Value).ownBlock ∧ some k_ ≠ (s_.2.1 : Value).ownBlock ∧ some k_ ≠ (s_.2.2.1 : Value).ownBlock) s_.2.2.2 y294) ∧ (w'.heap[gb278]? = some (.cells #[.int .i64 a0_0, .int .i64 a0_1, .slice A0_2 l0_2.length c0_2] 28 (0, 0))) ∧ (w'.heap[gb279]? = some (.cells #[.slice A1_0 l1_0.length c1_0, .slice A1_1 l1_1.length c1_1] 32 (0, 0))) ∧ (w'.heap[gb280]? = some (.cells #[.int .i64 0, .int .i64 0, .slice none 0 0, .slice none 0 0, .slice none 0 0, .slice none 0 0, .slice none 0 0, .slice none 0 0, .slice none 0 0, .slice none 0 0, .int .i64 0] 37 (0, 0))) ∧ (Below w.heap.size w w')) ?_ ?_
   rotate_left
   ·intro hJ1_3_6
    refine join_ (σ := Value × Value × Value × Nat) 3 #[true, true, true, true, true, true, false, false, true, false] (fun s_ => [(17, .agg #[.int .i64 t283, .int .i64 t284, s_.1]), (19, .agg #[s_.2.1, s_.2.2.1]), (7, .pointer (some ⟨s_.2.2.2, 0, none⟩))]) (fun s_ w' => (w'.cell? ⟨gb278, 0, none⟩ = some (.int .i64 a0_0) ∧ w'.cell? ⟨gb278, 1, none⟩ = some (.int .i64 a0_1) ∧ w'.cell? ⟨gb278, 2, none⟩ = some (.slice A0_2 l0_2.length c0_2) ∧ w'.cell? ⟨gb279, 0, none⟩ = some (.slice A1_0 l1_0.length c1_0) ∧ w'.cell? ⟨gb279, 1, none⟩ = some (.slice A1_1 l1_1.length c1_1)) ∧ (Kd.R (Kd.int .i64) 3 w' w.heap.size (fun k_ => some k_ ≠ (s_.2.1 : Value).ownBlock ∧ some k_ ≠ (s_.2.2.1 : Value).ownBlock) s_.1 t285) ∧ (Kd.R (Kd.int .i64) 3 w' w.heap.size (fun k_ => some k_ ≠ (s_.1 : Value).ownBlock ∧ some k_ ≠ (s_.2.2.1 : Value).ownBlock) s_.2.1 t288) ∧ (Kd.R (Kd.int .i64) 3 w' w.heap.size (fun k_ => some k_ ≠ (s_.1 : Value).ownBlock ∧ some k_ ≠ (s_.2.1 : Value).ownBlock) s_.2.2.1 t291) ∧ (w'.heap[gb278]? = some (.cells #[.int .i64 a0_0, .int .i64 a0_1, .slice A0_2 l0_2.length c0_2] 28 (0, 0))) ∧ (w'.heap[gb279]? = some (.cells #[.slice A1_0 l1_0.length c1_0, .slice A1_1 l1_1.length c1_1] 32 (0, 0))) ∧ (w'.heap[gb280]? = some (.cells #[.int .i64 0, .int .i64 0, .slice none 0 0, .slice none 0 0, .slice none 0 0, .slice none 0 0, .slice none 0 0, .slice none 0 0, .slice none 0 0, .slice none 0 0, .int .i64 0] 37 (0, 0))) ∧ (w'.heap[s_.2.2.2]? = some (.cells #[.int .i64 0, .int .i64 0, .slice none 0 0, .slice none 0 0, .slice none 0 0, .slice none 0 0, .slice none 0 0, .slice none 0 0, .slice none 0 0, .slice none 0 0, .int .i64 0] 37 (0, 0))) ∧ (w.heap.size ≤ s_.2.2.2) ∧ (w.heap.size ≤ s_.2.2.2) ∧ (gb278 ≠ s_.2.2.2) ∧ (s_.2.2.2 ≠ gb278) ∧ (gb279 ≠ s_.2.2.2) ∧ (s_.2.2.2 ≠ gb279) ∧ (gb280 ≠ s_.2.2.2) ∧ (s_.2.2.2 ≠ gb280) ∧ (Below w.heap.size w w')) ?_ ?_
    rotate_left
    ·intro hJ1_3_8
     refine join_ (σ := Value × Value × Nat) 3 #[true, true, true, false, true, true, true, false, true, false] (fun s_ => [(17, .agg #[.int .i64 t283, .int .i64 t284, s_.1]), (22, s_.2.1), (7, .pointer (some ⟨s_.2.2, 0, none⟩))]) (fun s_ w' => (w'.cell? ⟨gb278, 0, none⟩ = some (.int .i64 a0_0) ∧ w'.cell? ⟨gb278, 1, none⟩ = some (.int .i64 a0_1) ∧ w'.cell? ⟨gb278, 2, none⟩ = some (.slice A0_2 l0_2.length c0_2) ∧ w'.cell? ⟨gb279, 0, none⟩ = some (.slice A1_0 l1_0.length c1_0) ∧ w'.cell? ⟨gb279, 1, none⟩ = some (.slice A1_1 l1_1.length c1_1)) ∧ (Kd.R (Kd.int .i64) 3 w' w.heap.size (fun k_ => some k_ ≠ (s_.2.1 : Value).ownBlock) s_.1 t285) ∧ (Kd.R (Kd.int .i64) 3 w' w.heap.size (fun k_ => some k_ ≠ (s_.1 : Value).ownBlock) s_.2.1 y294) ∧ (w'.heap[gb278]? = some (.cells #[.int .i64 a0_0, .int .i64 a0_1, .slice A0_2 l0_2.length c0_2] 28 (0, 0))) ∧ (w'.heap[gb279]? = some (.cells #[.slice A1_0 l1_0.length c1_0, .slice A1_1 l1_1.length c1_1] 32 (0, 0))) ∧ (w'.heap[gb280]? = some (.cells #[.int .i64 0, .int .i64 0, .slice none 0 0, .slice none 0 0, .slice none 0 0, .slice none 0 0, .slice none 0 0, .slice none 0 0, .slice none 0 0, .slice none 0 0, .int .i64 0] 37 (0, 0))) ∧ (w'.heap[s_.2.2]? = some (.cells #[.int .i64 0, .int .i64 0, .slice none 0 0, .slice none 0 0, .slice none 0 0, .slice none 0 0, .slice none 0 0, .slice none 0 0, .slice none 0 0, .slice none 0 0, .int .i64 0] 37 (0, 0))) ∧ (w.heap.size ≤ s_.2.2) ∧ (w.heap.size ≤ s_.2.2) ∧ (gb278 ≠ s_.2.2) ∧ (s_.2.2 ≠ gb278) ∧ (gb279 ≠ s_.2.2) ∧ (s_.2.2 ≠ gb279) ∧ (gb280 ≠ s_.2.2) ∧ (s_.2.2 ≠ gb280) ∧ (Below w.heap.size w w')) ?_ ?_
     rotate_left
     ·intro hJ1_6_8
      refine join_ (σ := Value × Value × Value) 4 #[true, true, true, true, true, true, false, false, false, false] (fun s_ => [(17, .agg #[.int .i64 t283, .int .i64 t284, s_.1]), (19, .agg #[s_.2.1, s_.2.2])]) (fun s_ w' => (w'.cell? ⟨gb278, 0, none⟩ = some (.int .i64 a0_0) ∧ w'.cell? ⟨gb278, 1, none⟩ = some (.int .i64 a0_1) ∧ w'.cell? ⟨gb278, 2, none⟩ = some (.slice A0_2 l0_2.length c0_2) ∧ w'.cell? ⟨gb279, 0, none⟩ = some (.slice A1_0 l1_0.length c1_0) ∧ w'.cell? ⟨gb279, 1, none⟩ = some (.slice A1_1 l1_1.length c1_1)) ∧ (Kd.R (Kd.int .i64) 3 w' w.heap.size (fun k_ => some k_ ≠ (s_.2.1 : Value).ownBlock ∧ some k_ ≠ (s_.2.2 : Value).ownBlock) s_.1 t285) ∧ (Kd.R (Kd.int .i64) 3 w' w.heap.size (fun k_ => some k_ ≠ (s_.1 : Value).ownBlock ∧ some k_ ≠ (s_.2.2 : Value).ownBlock) s_.2.1 t288) ∧ (Kd.R (Kd.int .i64) 3 w' w.heap.size (fun k_ => some k_ ≠ (s_.1 : Value).ownBlock ∧ some k_ ≠ (s_.2.1 : Value).ownBlock) s_.2.2 t291) ∧ (w'.heap[gb278]? = some (.cells #[.int .i64 a0_0, .int .i64 a0_1, .slice A0_2 l0_2.length c0_2] 28 (0, 0))) ∧ (w'.heap[gb279]? = some (.cells #[.slice A1_0 l1_0.length c1_0, .slice A1_1 l1_1.length c1_1] 32 (0, 0))) ∧ (w'.heap[gb280]? = some (.cells #[.int .i64 0, .int .i64 0, .slice none 0 0, .slice none 0 0, .slice none 0 0, .slice none 0 0, .slice none 0 0, .slice none 0 0, .slice none 0 0, .slice none 0 0, .int .i64 0] 37 (0, 0))) ∧ (Below w.heap.size w w')) ?_ ?_
      rotate_left
      ·intro hJ1_3
       refine join_ (σ := Value × Value) 4 #[true, true, true, false, true, true, true, false, false, false] (fun s_ => [(17, .agg #[.int .i64 t283, .int .i64 t284, s_.1]), (22, s_.2)]) (fun s_ w' => (w'.cell? ⟨gb278, 0, none⟩ = some (.int .i64 a0_0) ∧ w'.cell? ⟨gb278, 1, none⟩ = some (.int .i64 a0_1) ∧ w'.cell? ⟨gb278, 2, none⟩ = some (.slice A0_2 l0_2.length c0_2) ∧ w'.cell? ⟨gb279, 0, none⟩ = some (.slice A1_0 l1_0.length c1_0) ∧ w'.cell? ⟨gb279, 1, none⟩ = some (.slice A1_1 l1_1.length c1_1)) ∧ (Kd.R (Kd.int .i64) 3 w' w.heap.size (fun k_ => some k_ ≠ (s_.2 : Value).ownBlock) s_.1 t285) ∧ (Kd.R (Kd.int .i64) 3 w' w.heap.size (fun k_ => some k_ ≠ (s_.1 : Value).ownBlock) s_.2 y294) ∧ (w'.heap[gb278]? = some (.cells #[.int .i64 a0_0, .int .i64 a0_1, .slice A0_2 l0_2.length c0_2] 28 (0, 0))) ∧ (w'.heap[gb279]? = some (.cells #[.slice A1_0 l1_0.length c1_0, .slice A1_1 l1_1.length c1_1] 32 (0, 0))) ∧ (w'.heap[gb280]? = some (.cells #[.int .i64 0, .int .i64 0, .slice none 0 0, .slice none 0 0, .slice none 0 0, .slice none 0 0, .slice none 0 0, .slice none 0 0, .slice none 0 0, .slice none 0 0, .int .i64 0] 37 (0, 0))) ∧ (Below w.heap.size w w')) ?_ ?_
       rotate_left
       ·intro hJ1_6
        refine join_ (σ := Value × Nat) 4 #[true, true, true, false, true, true, false, false, true, false] (fun s_ => [(17, .agg #[.int .i64 t283, .int .i64 t284, s_.1]), (7, .pointer (some ⟨s_.2, 0, none⟩))]) (fun s_ w' => (w'.cell? ⟨gb278, 0, none⟩ = some (.int .i64 a0_0) ∧ w'.cell? ⟨gb278, 1, none⟩ = some (.int .i64 a0_1) ∧ w'.cell? ⟨gb278, 2, none⟩ = some (.slice A0_2 l0_2.length c0_2) ∧ w'.cell? ⟨gb279, 0, none⟩ = some (.slice A1_0 l1_0.length c1_0) ∧ w'.cell? ⟨gb279, 1, none⟩ = some (.slice A1_1 l1_1.length c1_1)) ∧ (Kd.R (Kd.int .i64) 3 w' w.heap.size (fun _ => True) s_.1 t285) ∧ (w'.heap[gb278]? = some (.cells #[.int .i64 a0_0, .int .i64 a0_1, .slice A0_2 l0_2.length c0_2] 28 (0, 0))) ∧ (w'.heap[gb279]? = some (.cells #[.slice A1_0 l1_0.length c1_0, .slice A1_1 l1_1.length c1_1] 32 (0, 0))) ∧ (w'.heap[gb280]? = some (.cells #[.int .i64 0, .int .i64 0, .slice none 0 0, .slice none 0 0, .slice none 0 0, .slice none 0 0, .slice none 0 0, .slice none 0 0, .slice none 0 0, .slice none 0 0, .int .i64 0] 37 (0, 0))) ∧ (w'.heap[s_.2]? = some (.cells #[.int .i64 0, .int .i64 0, .slice none 0 0, .slice none 0 0, .slice none 0 0, .slice none 0 0, .slice none 0 0, .slice none 0 0, .slice none 0 0, .slice none 0 0, .int .i64 0] 37 (0, 0))) ∧ (w.heap.size ≤ s_.2) ∧ (w.heap.size ≤ s_.2) ∧ (gb278 ≠ s_.2) ∧ (s_.2 ≠ gb278) ∧ (gb279 ≠ s_.2) ∧ (s_.2 ≠ gb279) ∧ (gb280 ≠ s_.2) ∧ (s_.2 ≠ gb280) ∧ (Below w.heap.size w w')) ?_ ?_
        rotate_left
        ·intro hJ1_8
         refine join_ (σ := Value × Nat) 4 #[true, false, true, false, true, true, true, false, true, false] (fun s_ => [(22, s_.1), (7, .pointer (some ⟨s_.2, 0, none⟩))]) (fun s_ w' => (w'.cell? ⟨gb278, 0, none⟩ = some (.int .i64 a0_0) ∧ w'.cell? ⟨gb278, 1, none⟩ = some (.int .i64 a0_1) ∧ w'.cell? ⟨gb278, 2, none⟩ = some (.slice A0_2 l0_2.length c0_2) ∧ w'.cell? ⟨gb279, 0, none⟩ = some (.slice A1_0 l1_0.length c1_0) ∧ w'.cell? ⟨gb279, 1, none⟩ = some (.slice A1_1 l1_1.length c1_1)) ∧ (Kd.R (Kd.int .i64) 3 w' w.heap.size (fun _ => True) s_.1 y294) ∧ (w'.heap[gb278]? = some (.cells #[.int .i64 a0_0, .int .i64 a0_1, .slice A0_2 l0_2.length c0_2] 28 (0, 0))) ∧ (w'.heap[gb279]? = some (.cells #[.slice A1_0 l1_0.length c1_0, .slice A1_1 l1_1.length c1_1] 32 (0, 0))) ∧ (w'.heap[gb280]? = some (.cells #[.int .i64 0, .int .i64 0, .slice none 0 0, .slice none 0 0, .slice none 0 0, .slice none 0 0, .slice none 0 0, .slice none 0 0, .slice none 0 0, .slice none 0 0, .int .i64 0] 37 (0, 0))) ∧ (w'.heap[s_.2]? = some (.cells #[.int .i64 0, .int .i64 0, .slice none 0 0, .slice none 0 0, .slice none 0 0, .slice none 0 0, .slice none 0 0, .slice none 0 0, .slice none 0 0, .slice none 0 0, .int .i64 0] 37 (0, 0))) ∧ (w.heap.size ≤ s_.2) ∧ (w.heap.size ≤ s_.2) ∧ (gb278 ≠ s_.2) ∧ (s_.2 ≠ gb278) ∧ (gb279 ≠ s_.2) ∧ (s_.2 ≠ gb279) ∧ (gb280 ≠ s_.2) ∧ (s_.2 ≠ gb280) ∧ (Below w.heap.size w w')) ?_ ?_
         rotate_left
         ·intro hJ6_8
          refine join_ (σ := Value) 5 #[true, true, true, false, true, true, false, false, false, false] (fun s_ => [(17, .agg #[.int .i64 t283, .int .i64 t284, s_])]) (fun s_ w' => (w'.cell? ⟨gb278, 0, none⟩ = some (.int .i64 a0_0) ∧ w'.cell? ⟨gb278, 1, none⟩ = some (.int .i64 a0_1) ∧ w'.cell? ⟨gb278, 2, none⟩ = some (.slice A0_2 l0_2.length c0_2) ∧ w'.cell? ⟨gb279, 0, none⟩ = some (.slice A1_0 l1_0.length c1_0) ∧ w'.cell? ⟨gb279, 1, none⟩ = some (.slice A1_1 l1_1.length c1_1)) ∧ (Kd.R (Kd.int .i64) 3 w' w.heap.size (fun _ => True) s_ t285) ∧ (w'.heap[gb278]? = some (.cells #[.int .i64 a0_0, .int .i64 a0_1, .slice A0_2 l0_2.length c0_2] 28 (0, 0))) ∧ (w'.heap[gb279]? = some (.cells #[.slice A1_0 l1_0.length c1_0, .slice A1_1 l1_1.length c1_1] 32 (0, 0))) ∧ (w'.heap[gb280]? = some (.cells #[.int .i64 0, .int .i64 0, .slice none 0 0, .slice none 0 0, .slice none 0 0, .slice none 0 0, .slice none 0 0, .slice none 0 0, .slice none 0 0, .slice none 0 0, .int .i64 0] 37 (0, 0))) ∧ (Below w.heap.size w w')) ?_ ?_
          rotate_left
          ·intro hJ1
           refine join_ (σ := Value) 5 #[true, false, true, false, true, true, true, false, false, false] (fun s_ => [(22, s_)]) (fun s_ w' => (w'.cell? ⟨gb278, 0, none⟩ = some (.int .i64 a0_0) ∧ w'.cell? ⟨gb278, 1, none⟩ = some (.int .i64 a0_1) ∧ w'.cell? ⟨gb278, 2, none⟩ = some (.slice A0_2 l0_2.length c0_2) ∧ w'.cell? ⟨gb279, 0, none⟩ = some (.slice A1_0 l1_0.length c1_0) ∧ w'.cell? ⟨gb279, 1, none⟩ = some (.slice A1_1 l1_1.length c1_1)) ∧ (Kd.R (Kd.int .i64) 3 w' w.heap.size (fun _ => True) s_ y294) ∧ (w'.heap[gb278]? = some (.cells #[.int .i64 a0_0, .int .i64 a0_1, .slice A0_2 l0_2.length c0_2] 28 (0, 0))) ∧ (w'.heap[gb279]? = some (.cells #[.slice A1_0 l1_0.length c1_0, .slice A1_1 l1_1.length c1_1] 32 (0, 0))) ∧ (w'.heap[gb280]? = some (.cells #[.int .i64 0, .int .i64 0, .slice none 0 0, .slice none 0 0, .slice none 0 0, .slice none 0 0, .slice none 0 0, .slice none 0 0, .slice none 0 0, .slice none 0 0, .int .i64 0] 37 (0, 0))) ∧ (Below w.heap.size w w')) ?_ ?_
           rotate_left
           ·intro hJ6
            refine join_ (σ := Nat) 5 #[true, false, true, false, true, true, false, false, true, false] (fun s_ => [(7, .pointer (some ⟨s_, 0, none⟩))]) (fun s_ w' => (w'.cell? ⟨gb278, 0, none⟩ = some (.int .i64 a0_0) ∧ w'.cell? ⟨gb278, 1, none⟩ = some (.int .i64 a0_1) ∧ w'.cell? ⟨gb278, 2, none⟩ = some (.slice A0_2 l0_2.length c0_2) ∧ w'.cell? ⟨gb279, 0, none⟩ = some (.slice A1_0 l1_0.length c1_0) ∧ w'.cell? ⟨gb279, 1, none⟩ = some (.slice A1_1 l1_1.length c1_1)) ∧ (w'.heap[gb278]? = some (.cells #[.int .i64 a0_0, .int .i64 a0_1, .slice A0_2 l0_2.length c0_2] 28 (0, 0))) ∧ (w'.heap[gb279]? = some (.cells #[.slice A1_0 l1_0.length c1_0, .slice A1_1 l1_1.length c1_1] 32 (0, 0))) ∧ (w'.heap[gb280]? = some (.cells #[.int .i64 0, .int .i64 0, .slice none 0 0, .slice none 0 0, .slice none 0 0, .slice none 0 0, .slice none 0 0, .slice none 0 0, .slice none 0 0, .slice none 0 0, .int .i64 0] 37 (0, 0))) ∧ (w'.heap[s_]? = some (.cells #[.int .i64 0, .int .i64 0, .slice none 0 0, .slice none 0 0, .slice none 0 0, .slice none 0 0, .slice none 0 0, .slice none 0 0, .slice none 0 0, .slice none 0 0, .int .i64 0] 37 (0, 0))) ∧ (w.heap.size ≤ s_) ∧ (w.heap.size ≤ s_) ∧ (gb278 ≠ s_) ∧ (s_ ≠ gb278) ∧ (gb279 ≠ s_) ∧ (s_ ≠ gb279) ∧ (gb280 ≠ s_) ∧ (s_ ≠ gb280) ∧ (Below w.heap.size w w')) ?_ ?_
            rotate_left
            ·intro hJ8
             refine three_ (i := 1) (j := 6) (k := 8) (Ni := some 17) (Nj := some 22) (Nk := some 7) #[true, true, true, false, true, true, false, false, false, false] #[true, false, true, false, true, true, true, false, false, false] #[true, false, true, false, true, true, false, false, true, false] rfl rfl rfl rfl rfl rfl (three_of HT_.out (by kernel_rfl)) (by decide) (by decide) (by decide) (fun K hK => ?_) (fun K hK => ?_) (fun K hK => ?_)
             ·skip
              refine goes_ Try.func43 (by kernel_rfl) rfl #[.agg #[.int .i64 a0_0, .int .i64 a0_1, .slice A0_2 l0_2.length c0_2]] (by rfl) rfl rfl (by (try simp only [List.map_toArray, List.map_cons, List.map_nil]); first | done | rfl | (simp only [List.length_drop, List.length_take]; rfl)) ?_
              with_reducible refine (impl_copyMesh.calls a0_0 a0_1 _ _ l0_2 t283 t284 t285 _ ?side1 ?side2 A6.out).mono ?_
              (case side1 => exact cb_ HR0_2.out HB.out)
              (case side2 => exact HC0_2.out)
              rintro e w28 ⟨v286, rfl, ho0, hb⟩
              refine ⟨_, rfl, ?_⟩
              have HO287 := Aside0.mk (Kd.R_lower ho0 (bz_ HB.out))
              replace BK278 := kb_ BK278 hb
              replace BK279 := kb_ BK279 hb
              replace BK280 := kb_ BK280 hb
              replace HB := hs_ HB hb
              (try clear hb)
              (try clear hk)
              (try clear ho0)
              refine hK.out _ _ ⟨(blk_cell BK278.out 0).trans rfl, (blk_cell BK278.out 1).trans rfl, (blk_cell BK278.out 2).trans rfl, (blk_cell BK279.out 0).trans rfl, (blk_cell BK279.out 1).trans rfl⟩ (fun hHeld => ?_)
              clear hK K
              refine norm_ (a' := ?_) ?_ ?_
              rotate_left
              ·show Act.put _ (some 17) _ = _
               simp only [Act.put, List.setIfInBounds_toArray, List.set_cons_zero, List.set_cons_succ, i64_w, i32_w]
               rfl
              exact norm_ (by simp only [putAll, Act.put, List.setIfInBounds_toArray, List.set_cons_zero, List.set_cons_succ]; first | done | rfl) (hJ1 (v286) _ ⟨hHeld, (ra_ HO287.out), bq_ BK278.out, bq_ BK279.out, bq_ BK280.out, (by repeat (first | (with_reducible first | exact HB.out | apply below_alloc | apply pw_below_drewN | apply below_drew1 | refine below_set ?_ GW278.out | refine below_set ?_ GW279.out | refine below_set ?_ GW280.out) | exact HB.out))⟩)
             ·skip
              refine Kd.R_make_step (Kd.int .i64) _ 3 (by rfl) (N := 22) rfl 26 _ _ rfl ji8 rfl rfl Try.underlying26 (.int .i64 0) 8 info3 rfl (by decide) (by omega) 0 (ok := fun _ => True) (okp := fun _ => True) rfl (fun _ hk => hk) trivial (of_decide_eq_true dg_) (Nat.le_trans (Nat.mul_le_mul_right _ (of_decide_eq_true dg_ : ji8.toNat ≤ 35184372088832)) (by omega)) (Below.refl _ _) (Nat.le_refl _) ?_
              intro v295 w28 ho29 hb hg_ hnew_
              clear hg_ hnew_
              (first | rw [← Ny294.out] at ho29 | (simp only [Int.reduceToNat] at ho29; rw [← Ny294.out] at ho29))
              have n0_ := Aside0.mk (Kd.R_lower ho29 (bz_ HB.out))
              have n1_ := Aside0.mk (bk_ BK278.out hb)
              have n2_ := Aside0.mk (bk_ BK279.out hb)
              have n3_ := Aside0.mk (bk_ BK280.out hb)
              have n4_ := Aside0.mk (bs_ HB.out hb)
              clear BK278 BK279 BK280 HB
              have HO296 := n0_
              have BK278 := n1_
              have BK279 := n2_
              have BK280 := n3_
              have HB := n4_
              clear n0_ n1_ n2_ n3_ n4_ hb ho29
              refine hK.out _ _ ⟨(blk_cell BK278.out 0).trans rfl, (blk_cell BK278.out 1).trans rfl, (blk_cell BK278.out 2).trans rfl, (blk_cell BK279.out 0).trans rfl, (blk_cell BK279.out 1).trans rfl⟩ (fun hHeld => ?_)
              clear hK K
              refine norm_ (a' := ?_) ?_ ?_
              rotate_left
              ·show Act.put _ (some 22) _ = _
               simp only [Act.put, List.setIfInBounds_toArray, List.set_cons_zero, List.set_cons_succ, i64_w, i32_w]
               rfl
              exact norm_ (by simp only [putAll, Act.put, List.setIfInBounds_toArray, List.set_cons_zero, List.set_cons_succ]; first | done | rfl) (hJ6 (v295) _ ⟨hHeld, (ra_ HO296.out), bq_ BK278.out, bq_ BK279.out, bq_ BK280.out, (by repeat (first | (with_reducible first | exact HB.out | apply below_alloc | apply pw_below_drewN | apply below_drew1 | refine below_set ?_ GW278.out | refine below_set ?_ GW279.out | refine below_set ?_ GW280.out) | exact HB.out))⟩)
             ·skip
              refine box_step ?hg (N := 7) ?hd (cs := #[.int .i64 0, .int .i64 0, .slice none 0 0, .slice none 0 0, .slice none 0 0, .slice none 0 0, .slice none 0 0, .slice none 0 0, .slice none 0 0, .slice none 0 0, .int .i64 0]) (t := 37) ?hr ?_; (case hd => rfl); (case hg => rfl); (case hr => first | (go_simp; done) | (go_simp; rfl))
              intro gb297 hg w28 hbox hb
              have n0_ := Aside0.mk (bk_ BK278.out hb)
              have n1_ := Aside0.mk (bk_ BK279.out hb)
              have n2_ := Aside0.mk (bk_ BK280.out hb)
              have n3_ := Aside0.mk (bs_ HB.out hb)
              have n4_ := Aside0.mk (hbox)
              have n5_ := Aside0.mk ((by rw [hg]; exact (bz_ HB.out) : w.heap.size ≤ gb297))
              have n6_ := Aside0.mk ((by rw [hg]; exact (bz_ HB.out) : w.heap.size ≤ gb297))
              have n7_ := Aside0.mk ((by rw [hg]; exact Nat.ne_of_lt (bl_ BK278.out) : gb278 ≠ gb297))
              have n8_ := Aside0.mk ((by rw [hg]; exact Nat.ne_of_gt (bl_ BK278.out) : gb297 ≠ gb278))
              have n9_ := Aside0.mk ((by rw [hg]; exact Nat.ne_of_lt (bl_ BK279.out) : gb279 ≠ gb297))
              have n10_ := Aside0.mk ((by rw [hg]; exact Nat.ne_of_gt (bl_ BK279.out) : gb297 ≠ gb279))
              have n11_ := Aside0.mk ((by rw [hg]; exact Nat.ne_of_lt (bl_ BK280.out) : gb280 ≠ gb297))
              have n12_ := Aside0.mk ((by rw [hg]; exact Nat.ne_of_gt (bl_ BK280.out) : gb297 ≠ gb280))
              clear BK278 BK279 BK280 HB
              have BK278 := n0_
              have BK279 := n1_
              have BK280 := n2_
              have HB := n3_
              have BK297 := n4_
              have GW297 := n5_
              have GE297 := n6_
              have NB278_297 := n7_
              have NB297_278 := n8_
              have NB279_297 := n9_
              have NB297_279 := n10_
              have NB280_297 := n11_
              have NB297_280 := n12_
              clear n0_ n1_ n2_ n3_ n4_ n5_ n6_ n7_ n8_ n9_ n10_ n11_ n12_ hb hbox hg
              refine hK.out _ _ ⟨(blk_cell BK278.out 0).trans rfl, (blk_cell BK278.out 1).trans rfl, (blk_cell BK278.out 2).trans rfl, (blk_cell BK279.out 0).trans rfl, (blk_cell BK279.out 1).trans rfl⟩ (fun hHeld => ?_)
              clear hK K
              refine norm_ (a' := ?_) ?_ ?_
              rotate_left
              ·show Act.put _ (some 7) _ = _
               simp only [Act.put, List.setIfInBounds_toArray, List.set_cons_zero, List.set_cons_succ, i64_w, i32_w]
               rfl
              exact norm_ (by simp only [putAll, Act.put, List.setIfInBounds_toArray, List.set_cons_zero, List.set_cons_succ]; first | done | rfl) (hJ8 (gb297) _ ⟨hHeld, bq_ BK278.out, bq_ BK279.out, bq_ BK280.out, bq_ BK297.out, GW297.out, GE297.out, NB278_297.out, NB297_278.out, NB279_297.out, NB297_279.out, NB280_297.out, NB297_280.out, (by repeat (first | (with_reducible first | exact HB.out | apply below_alloc | apply pw_below_drewN | apply below_drew1 | refine below_set ?_ GW278.out | refine below_set ?_ GW279.out | refine below_set ?_ GW280.out | refine below_set ?_ GE297.out) | exact HB.out))⟩)
            ·skip
             rintro gb297 w29 ⟨hS_, h0_, h1_, h2_, h3_, h4_, h5_, h6_, h7_, h8_, h9_, h10_, h11_, h12_⟩
             replace BK278 : Aside0 (w29.heap[gb278]? = some (.cells #[.int .i64 a0_0, .int .i64 a0_1, .slice A0_2 l0_2.length c0_2] 28 (0, 0))) := ⟨h0_⟩
             replace BK279 : Aside0 (w29.heap[gb279]? = some (.cells #[.slice A1_0 l1_0.length c1_0, .slice A1_1 l1_1.length c1_1] 32 (0, 0))) := ⟨h1_⟩
             replace BK280 : Aside0 (w29.heap[gb280]? = some (.cells #[.int .i64 0, .int .i64 0, .slice none 0 0, .slice none 0 0, .slice none 0 0, .slice none 0 0, .slice none 0 0, .slice none 0 0, .slice none 0 0, .slice none 0 0, .int .i64 0] 37 (0, 0))) := ⟨h2_⟩
             have BK297 : Aside0 (w29.heap[gb297]? = some (.cells #[.int .i64 0, .int .i64 0, .slice none 0 0, .slice none 0 0, .slice none 0 0, .slice none 0 0, .slice none 0 0, .slice none 0 0, .slice none 0 0, .slice none 0 0, .int .i64 0] 37 (0, 0))) := ⟨h3_⟩
             have GW297 : Aside0 (w.heap.size ≤ gb297) := ⟨h4_⟩
             have GE297 : Aside0 (w.heap.size ≤ gb297) := ⟨h5_⟩
             have NB278_297 : Aside0 (gb278 ≠ gb297) := ⟨h6_⟩
             have NB297_278 : Aside0 (gb297 ≠ gb278) := ⟨h7_⟩
             have NB279_297 : Aside0 (gb279 ≠ gb297) := ⟨h8_⟩
             have NB297_279 : Aside0 (gb297 ≠ gb279) := ⟨h9_⟩
             have NB280_297 : Aside0 (gb280 ≠ gb297) := ⟨h10_⟩
             have NB297_280 : Aside0 (gb297 ≠ gb280) := ⟨h11_⟩
             replace HB : Aside0 (Below w.heap.size w w29) := ⟨h12_⟩
             clear h0_ h1_ h2_ h3_ h4_ h5_ h6_ h7_ h8_ h9_ h10_ h11_ h12_
             have hHeld : w29.cell? ⟨gb278, 0, none⟩ = some (.int .i64 a0_0) ∧ w29.cell? ⟨gb278, 1, none⟩ = some (.int .i64 a0_1) ∧ w29.cell? ⟨gb278, 2, none⟩ = some (.slice A0_2 l0_2.length c0_2) ∧ w29.cell? ⟨gb279, 0, none⟩ = some (.slice A1_0 l1_0.length c1_0) ∧ w29.cell? ⟨gb279, 1, none⟩ = some (.slice A1_1 l1_1.length c1_1) := hS_
             refine norm_ (a' := ?_) ?_ ?_
             rotate_left
             ·simp only [putAll, Act.put, List.setIfInBounds_toArray, List.set_cons_zero, List.set_cons_succ]
              rfl
             refine two_ (i := 1) (j := 6) (Ni := some 17) (Nj := some 22) #[true, true, true, false, true, true, false, false, true, false] #[true, false, true, false, true, true, true, false, true, false] rfl rfl rfl rfl (two_of HT_.out (by kernel_rfl)) (by decide) (by decide) (fun K hK => ?_) (fun K hK => ?_)
             ·skip
              refine goes_ Try.func43 (by kernel_rfl) rfl #[.agg #[.int .i64 a0_0, .int .i64 a0_1, .slice A0_2 l0_2.length c0_2]] (by rfl) rfl rfl (by (try simp only [List.map_toArray, List.map_cons, List.map_nil]); first | done | rfl | (simp only [List.length_drop, List.length_take]; rfl)) ?_
              with_reducible refine (impl_copyMesh.calls a0_0 a0_1 _ _ l0_2 t283 t284 t285 _ ?side1 ?side2 A6.out).mono ?_
              (case side1 => exact cb_ HR0_2.out HB.out)
              (case side2 => exact HC0_2.out)
              rintro e w30 ⟨v286, rfl, ho0, hb⟩
              refine ⟨_, rfl, ?_⟩
              have HO287 := Aside0.mk (Kd.R_lower ho0 (bz_ HB.out))
              replace BK278 := kb_ BK278 hb
              replace BK279 := kb_ BK279 hb
              replace BK280 := kb_ BK280 hb
              replace BK297 := kb_ BK297 hb
              replace HB := hs_ HB hb
              (try clear hb)
              (try clear hk)
              (try clear ho0)
              refine hK.out _ _ ⟨(blk_cell BK278.out 0).trans rfl, (blk_cell BK278.out 1).trans rfl, (blk_cell BK278.out 2).trans rfl, (blk_cell BK279.out 0).trans rfl, (blk_cell BK279.out 1).trans rfl⟩ (fun hHeld => ?_)
              clear hK K
              refine norm_ (a' := ?_) ?_ ?_
              rotate_left
              ·show Act.put _ (some 17) _ = _
               simp only [Act.put, List.setIfInBounds_toArray, List.set_cons_zero, List.set_cons_succ, i64_w, i32_w]
               rfl
              exact norm_ (by simp only [putAll, Act.put, List.setIfInBounds_toArray, List.set_cons_zero, List.set_cons_succ]; first | done | rfl) (hJ1_8 (v286, gb297) _ ⟨hHeld, (ra_ HO287.out), bq_ BK278.out, bq_ BK279.out, bq_ BK280.out, bq_ BK297.out, GW297.out, GE297.out, NB278_297.out, NB297_278.out, NB279_297.out, NB297_279.out, NB280_297.out, NB297_280.out, (by repeat (first | (with_reducible first | exact HB.out | apply below_alloc | apply pw_below_drewN | apply below_drew1 | refine below_set ?_ GW278.out | refine below_set ?_ GW279.out | refine below_set ?_ GW280.out | refine below_set ?_ GE297.out) | exact HB.out))⟩)
             ·skip
              refine Kd.R_make_step (Kd.int .i64) _ 3 (by rfl) (N := 22) rfl 26 _ _ rfl ji8 rfl rfl Try.underlying26 (.int .i64 0) 8 info3 rfl (by decide) (by omega) 0 (ok := fun _ => True) (okp := fun _ => True) rfl (fun _ hk => hk) trivial (of_decide_eq_true dg_) (Nat.le_trans (Nat.mul_le_mul_right _ (of_decide_eq_true dg_ : ji8.toNat ≤ 35184372088832)) (by omega)) (Below.refl _ _) (Nat.le_refl _) ?_
              intro v295 w30 ho31 hb hg_ hnew_
              clear hg_ hnew_
              (first | rw [← Ny294.out] at ho31 | (simp only [Int.reduceToNat] at ho31; rw [← Ny294.out] at ho31))
              have n0_ := Aside0.mk (Kd.R_lower ho31 (bz_ HB.out))
              have n1_ := Aside0.mk (bk_ BK278.out hb)
              have n2_ := Aside0.mk (bk_ BK279.out hb)
              have n3_ := Aside0.mk (bk_ BK280.out hb)
              have n4_ := Aside0.mk (bk_ BK297.out hb)
              have n5_ := Aside0.mk (bs_ HB.out hb)
              clear BK278 BK279 BK280 BK297 HB
              have HO296 := n0_
              have BK278 := n1_
              have BK279 := n2_
              have BK280 := n3_
              have BK297 := n4_
              have HB := n5_
              clear n0_ n1_ n2_ n3_ n4_ n5_ hb ho31
              refine hK.out _ _ ⟨(blk_cell BK278.out 0).trans rfl, (blk_cell BK278.out 1).trans rfl, (blk_cell BK278.out 2).trans rfl, (blk_cell BK279.out 0).trans rfl, (blk_cell BK279.out 1).trans rfl⟩ (fun hHeld => ?_)
              clear hK K
              refine norm_ (a' := ?_) ?_ ?_
              rotate_left
              ·show Act.put _ (some 22) _ = _
               simp only [Act.put, List.setIfInBounds_toArray, List.set_cons_zero, List.set_cons_succ, i64_w, i32_w]
               rfl
              exact norm_ (by simp only [putAll, Act.put, List.setIfInBounds_toArray, List.set_cons_zero, List.set_cons_succ]; first | done | rfl) (hJ6_8 (v295, gb297) _ ⟨hHeld, (ra_ HO296.out), bq_ BK278.out, bq_ BK279.out, bq_ BK280.out, bq_ BK297.out, GW297.out, GE297.out, NB278_297.out, NB297_278.out, NB279_297.out, NB297_279.out, NB280_297.out, NB297_280.out, (by repeat (first | (with_reducible first | exact HB.out | apply below_alloc | apply pw_below_drewN | apply below_drew1 | refine below_set ?_ GW278.out | refine below_set ?_ GW279.out | refine below_set ?_ GW280.out | refine below_set ?_ GE297.out) | exact HB.out))⟩)
           ·skip
            rintro v295 w30 ⟨hS_, h0_, h1_, h2_, h3_, h4_⟩
            have HO296 : Aside0 (Kd.R (Kd.int .i64) 3 w30 w.heap.size (fun _ => True) v295 y294) := ⟨h0_⟩
            replace BK278 : Aside0 (w30.heap[gb278]? = some (.cells #[.int .i64 a0_0, .int .i64 a0_1, .slice A0_2 l0_2.length c0_2] 28 (0, 0))) := ⟨h1_⟩
            replace BK279 : Aside0 (w30.heap[gb279]? = some (.cells #[.slice A1_0 l1_0.length c1_0, .slice A1_1 l1_1.length c1_1] 32 (0, 0))) := ⟨h2_⟩
            replace BK280 : Aside0 (w30.heap[gb280]? = some (.cells #[.int .i64 0, .int .i64 0, .slice none 0 0, .slice none 0 0, .slice none 0 0, .slice none 0 0, .slice none 0 0, .slice none 0 0, .slice none 0 0, .slice none 0 0, .int .i64 0] 37 (0, 0))) := ⟨h3_⟩
            replace HB : Aside0 (Below w.heap.size w w30) := ⟨h4_⟩
            clear h0_ h1_ h2_ h3_ h4_
            have hHeld : w30.cell? ⟨gb278, 0, none⟩ = some (.int .i64 a0_0) ∧ w30.cell? ⟨gb278, 1, none⟩ = some (.int .i64 a0_1) ∧ w30.cell? ⟨gb278, 2, none⟩ = some (.slice A0_2 l0_2.length c0_2) ∧ w30.cell? ⟨gb279, 0, none⟩ = some (.slice A1_0 l1_0.length c1_0) ∧ w30.cell? ⟨gb279, 1, none⟩ = some (.slice A1_1 l1_1.length c1_1) := hS_
            refine norm_ (a' := ?_) ?_ ?_
            rotate_left
            ·simp only [putAll, Act.put, List.setIfInBounds_toArray, List.set_cons_zero, List.set_cons_succ]
             rfl
            refine two_ (i := 1) (j := 8) (Ni := some 17) (Nj := some 7) #[true, true, true, false, true, true, true, false, false, false] #[true, false, true, false, true, true, true, false, true, false] rfl rfl rfl rfl (two_of HT_.out (by kernel_rfl)) (by decide) (by decide) (fun K hK => ?_) (fun K hK => ?_)
            ·skip
             refine goes_ Try.func43 (by kernel_rfl) rfl #[.agg #[.int .i64 a0_0, .int .i64 a0_1, .slice A0_2 l0_2.length c0_2]] (by rfl) rfl rfl (by (try simp only [List.map_toArray, List.map_cons, List.map_nil]); first | done | rfl | (simp only [List.length_drop, List.length_take]; rfl)) ?_
             with_reducible refine (impl_copyMesh.calls a0_0 a0_1 _ _ l0_2 t283 t284 t285 _ ?side1 ?side2 A6.out).mono ?_
             (case side1 => exact cb_ HR0_2.out HB.out)
             (case side2 => exact HC0_2.out)
             rintro e w31 ⟨v286, rfl, ho0, hb⟩
             refine ⟨_, rfl, ?_⟩
             have HO287 := Aside0.mk (Kd.R_lower (Kd.R_new' ho0 (rl_ HO296.out)) (bz_ HB.out))
             replace HO296 := re_ HO296 ho0 hb
             replace BK278 := kb_ BK278 hb
             replace BK279 := kb_ BK279 hb
             replace BK280 := kb_ BK280 hb
             replace HB := hs_ HB hb
             (try clear hb)
             (try clear hk)
             (try clear ho0)
             refine hK.out _ _ ⟨(blk_cell BK278.out 0).trans rfl, (blk_cell BK278.out 1).trans rfl, (blk_cell BK278.out 2).trans rfl, (blk_cell BK279.out 0).trans rfl, (blk_cell BK279.out 1).trans rfl⟩ (fun hHeld => ?_)
             clear hK K
             refine norm_ (a' := ?_) ?_ ?_
             rotate_left
             ·show Act.put _ (some 17) _ = _
              simp only [Act.put, List.setIfInBounds_toArray, List.set_cons_zero, List.set_cons_succ, i64_w, i32_w]
              rfl
             exact norm_ (by simp only [putAll, Act.put, List.setIfInBounds_toArray, List.set_cons_zero, List.set_cons_succ]; first | done | rfl) (hJ1_6 (v286, v295) _ ⟨hHeld, (by (with_reducible repeat (first | apply Kd.R_alloc | apply Kd.R_drewN | apply Kd.R_drew)); exact Kd.R_mono HO287.out (fun _ hk => hk.2)), (by (with_reducible repeat (first | apply Kd.R_alloc | apply Kd.R_drewN | apply Kd.R_drew)); exact Kd.R_mono HO296.out (fun _ hk => hk.2)), bq_ BK278.out, bq_ BK279.out, bq_ BK280.out, (by repeat (first | (with_reducible first | exact HB.out | apply below_alloc | apply pw_below_drewN | apply below_drew1 | refine below_set ?_ GW278.out | refine below_set ?_ GW279.out | refine below_set ?_ GW280.out) | exact HB.out))⟩)
            ·skip
             refine box_step ?hg (N := 7) ?hd (cs := #[.int .i64 0, .int .i64 0, .slice none 0 0, .slice none 0 0, .slice none 0 0, .slice none 0 0, .slice none 0 0, .slice none 0 0, .slice none 0 0, .slice none 0 0, .int .i64 0]) (t := 37) ?hr ?_; (case hd => rfl); (case hg => rfl); (case hr => first | (go_simp; done) | (go_simp; rfl))
             intro gb297 hg w31 hbox hb
             have n0_ := Aside0.mk (Kd.R_below (ra_ HO296.out) hb)
             have n1_ := Aside0.mk (bk_ BK278.out hb)
             have n2_ := Aside0.mk (bk_ BK279.out hb)
             have n3_ := Aside0.mk (bk_ BK280.out hb)
             have n4_ := Aside0.mk (bs_ HB.out hb)
             have n5_ := Aside0.mk (hbox)
             have n6_ := Aside0.mk ((by rw [hg]; exact (bz_ HB.out) : w.heap.size ≤ gb297))
             have n7_ := Aside0.mk ((by rw [hg]; exact (bz_ HB.out) : w.heap.size ≤ gb297))
             have n8_ := Aside0.mk ((by rw [hg]; exact Nat.ne_of_lt (bl_ BK278.out) : gb278 ≠ gb297))
             have n9_ := Aside0.mk ((by rw [hg]; exact Nat.ne_of_gt (bl_ BK278.out) : gb297 ≠ gb278))
             have n10_ := Aside0.mk ((by rw [hg]; exact Nat.ne_of_lt (bl_ BK279.out) : gb279 ≠ gb297))
             have n11_ := Aside0.mk ((by rw [hg]; exact Nat.ne_of_gt (bl_ BK279.out) : gb297 ≠ gb279))
             have n12_ := Aside0.mk ((by rw [hg]; exact Nat.ne_of_lt (bl_ BK280.out) : gb280 ≠ gb297))
             have n13_ := Aside0.mk ((by rw [hg]; exact Nat.ne_of_gt (bl_ BK280.out) : gb297 ≠ gb280))
             clear HO296 BK278 BK279 BK280 HB
             have HO296 := n0_
             have BK278 := n1_
             have BK279 := n2_
             have BK280 := n3_
             have HB := n4_
             have BK297 := n5_
             have GW297 := n6_
             have GE297 := n7_
             have NB278_297 := n8_
             have NB297_278 := n9_
             have NB279_297 := n10_
             have NB297_279 := n11_
             have NB280_297 := n12_
             have NB297_280 := n13_
             clear n0_ n1_ n2_ n3_ n4_ n5_ n6_ n7_ n8_ n9_ n10_ n11_ n12_ n13_ hb hbox hg
             refine hK.out _ _ ⟨(blk_cell BK278.out 0).trans rfl, (blk_cell BK278.out 1).trans rfl, (blk_cell BK278.out 2).trans rfl, (blk_cell BK279.out 0).trans rfl, (blk_cell BK279.out 1).trans rfl⟩ (fun hHeld => ?_)
             clear hK K
             refine norm_ (a' := ?_) ?_ ?_
             rotate_left
             ·show Act.put _ (some 7) _ = _
              simp only [Act.put, List.setIfInBounds_toArray, List.set_cons_zero, List.set_cons_succ, i64_w, i32_w]
              rfl
             exact norm_ (by simp only [putAll, Act.put, List.setIfInBounds_toArray, List.set_cons_zero, List.set_cons_succ]; first | done | rfl) (hJ6_8 (v295, gb297) _ ⟨hHeld, (ra_ HO296.out), bq_ BK278.out, bq_ BK279.out, bq_ BK280.out, bq_ BK297.out, GW297.out, GE297.out, NB278_297.out, NB297_278.out, NB279_297.out, NB297_279.out, NB280_297.out, NB297_280.out, (by repeat (first | (with_reducible first | exact HB.out | apply below_alloc | apply pw_below_drewN | apply below_drew1 | refine below_set ?_ GW278.out | refine below_set ?_ GW279.out | refine below_set ?_ GW280.out | refine below_set ?_ GE297.out) | exact HB.out))⟩)
          ·skip
           rintro v286 w29 ⟨hS_, h0_, h1_, h2_, h3_, h4_⟩
           have HO287 : Aside0 (Kd.R (Kd.int .i64) 3 w29 w.heap.size (fun _ => True) v286 t285) := ⟨h0_⟩
           replace BK278 : Aside0 (w29.heap[gb278]? = some (.cells #[.int .i64 a0_0, .int .i64 a0_1, .slice A0_2 l0_2.length c0_2] 28 (0, 0))) := ⟨h1_⟩
           replace BK279 : Aside0 (w29.heap[gb279]? = some (.cells #[.slice A1_0 l1_0.length c1_0, .slice A1_1 l1_1.length c1_1] 32 (0, 0))) := ⟨h2_⟩
           replace BK280 : Aside0 (w29.heap[gb280]? = some (.cells #[.int .i64 0, .int .i64 0, .slice none 0 0, .slice none 0 0, .slice none 0 0, .slice none 0 0, .slice none 0 0, .slice none 0 0, .slice none 0 0, .slice none 0 0, .int .i64 0] 37 (0, 0))) := ⟨h3_⟩
           replace HB : Aside0 (Below w.heap.size w w29) := ⟨h4_⟩
           clear h0_ h1_ h2_ h3_ h4_
           have hHeld : w29.cell? ⟨gb278, 0, none⟩ = some (.int .i64 a0_0) ∧ w29.cell? ⟨gb278, 1, none⟩ = some (.int .i64 a0_1) ∧ w29.cell? ⟨gb278, 2, none⟩ = some (.slice A0_2 l0_2.length c0_2) ∧ w29.cell? ⟨gb279, 0, none⟩ = some (.slice A1_0 l1_0.length c1_0) ∧ w29.cell? ⟨gb279, 1, none⟩ = some (.slice A1_1 l1_1.length c1_1) := hS_
           refine norm_ (a' := ?_) ?_ ?_
           rotate_left
           ·simp only [putAll, Act.put, List.setIfInBounds_toArray, List.set_cons_zero, List.set_cons_succ]
            rfl
           refine three_ (i := 3) (j := 6) (k := 8) (Ni := some 19) (Nj := some 22) (Nk := some 7) #[true, true, true, true, true, true, false, false, false, false] #[true, true, true, false, true, true, true, false, false, false] #[true, true, true, false, true, true, false, false, true, false] rfl rfl rfl rfl rfl rfl (three_of HT_.out (by kernel_rfl)) (by decide) (by decide) (by decide) (fun K hK => ?_) (fun K hK => ?_) (fun K hK => ?_)
           ·skip
            refine goes_ Try.func44 (by kernel_rfl) rfl #[.agg #[.slice A1_0 l1_0.length c1_0, .slice A1_1 l1_1.length c1_1]] (by rfl) rfl rfl (by (try simp only [List.map_toArray, List.map_cons, List.map_nil]); first | done | rfl | (simp only [List.length_drop, List.length_take]; rfl)) ?_
            with_reducible refine (impl_copyClasses.calls _ _ l1_0 _ _ l1_1 t288 t291 _ ?side1 ?side2 ?side3 ?side4 A7.out).mono ?_
            (case side1 => exact cb_ HR1_0.out HB.out)
            (case side2 => exact HC1_0.out)
            (case side3 => exact cb_ HR1_1.out HB.out)
            (case side4 => exact HC1_1.out)
            rintro e w30 ⟨v289, v292, rfl, ho0, ho1, hb⟩
            refine ⟨_, rfl, ?_⟩
            have HO290 := Aside0.mk (Kd.R_lower (Kd.R_new' ho0 (rl_ HO287.out)) (bz_ HB.out))
            have HO293 := Aside0.mk (Kd.R_lower (Kd.R_new' ho1 (rl_ HO287.out)) (bz_ HB.out))
            replace HO287 := Aside0.mk (Kd.R_mono (Kd.R_told (Kd.R_told (Kd.R_old (ra_ HO287.out) hb) (Kd.R_base ho0)) (Kd.R_base ho1)) (fun _ h_ => h_.1))
            replace BK278 := kb_ BK278 hb
            replace BK279 := kb_ BK279 hb
            replace BK280 := kb_ BK280 hb
            replace HB := hs_ HB hb
            (try clear hb)
            (try clear hk)
            (try clear ho0)
            (try clear ho1)
            refine hK.out _ _ ⟨(blk_cell BK278.out 0).trans rfl, (blk_cell BK278.out 1).trans rfl, (blk_cell BK278.out 2).trans rfl, (blk_cell BK279.out 0).trans rfl, (blk_cell BK279.out 1).trans rfl⟩ (fun hHeld => ?_)
            clear hK K
            refine norm_ (a' := ?_) ?_ ?_
            rotate_left
            ·show Act.put _ (some 19) _ = _
             simp only [Act.put, List.setIfInBounds_toArray, List.set_cons_zero, List.set_cons_succ, i64_w, i32_w]
             rfl
            exact norm_ (by simp only [putAll, Act.put, List.setIfInBounds_toArray, List.set_cons_zero, List.set_cons_succ]; first | done | rfl) (hJ1_3 (v286, v289, v292) _ ⟨hHeld, (by (with_reducible repeat (first | apply Kd.R_alloc | apply Kd.R_drewN | apply Kd.R_drew)); exact Kd.R_mono HO287.out (fun _ hk => ⟨hk.1.2, hk.2⟩)), (by (with_reducible repeat (first | apply Kd.R_alloc | apply Kd.R_drewN | apply Kd.R_drew)); exact Kd.R_mono HO290.out (fun _ hk => ⟨hk.2, hk.1⟩)), (by (with_reducible repeat (first | apply Kd.R_alloc | apply Kd.R_drewN | apply Kd.R_drew)); exact Kd.R_mono HO293.out (fun _ hk => ⟨hk.2, hk.1⟩)), bq_ BK278.out, bq_ BK279.out, bq_ BK280.out, (by repeat (first | (with_reducible first | exact HB.out | apply below_alloc | apply pw_below_drewN | apply below_drew1 | refine below_set ?_ GW278.out | refine below_set ?_ GW279.out | refine below_set ?_ GW280.out) | exact HB.out))⟩)
           ·skip
            refine Kd.R_make_step (Kd.int .i64) _ 3 (by rfl) (N := 22) rfl 26 _ _ rfl ji8 rfl rfl Try.underlying26 (.int .i64 0) 8 info3 rfl (by decide) (by omega) 0 (ok := fun _ => True) (okp := fun _ => True) rfl (fun _ hk => hk) trivial (of_decide_eq_true dg_) (Nat.le_trans (Nat.mul_le_mul_right _ (of_decide_eq_true dg_ : ji8.toNat ≤ 35184372088832)) (by omega)) (Below.refl _ _) (Nat.le_refl _) ?_
            intro v295 w30 ho31 hb hg_ hnew_
            clear hg_ hnew_
            (first | rw [← Ny294.out] at ho31 | (simp only [Int.reduceToNat] at ho31; rw [← Ny294.out] at ho31))
            have n0_ := Aside0.mk (Kd.R_elder' (ra_ HO287.out) (Kd.R_base ho31) hb)
            have n1_ := Aside0.mk (Kd.R_lower (Kd.R_new' ho31 (rl_ HO287.out)) (bz_ HB.out))
            have n2_ := Aside0.mk (bk_ BK278.out hb)
            have n3_ := Aside0.mk (bk_ BK279.out hb)
            have n4_ := Aside0.mk (bk_ BK280.out hb)
            have n5_ := Aside0.mk (bs_ HB.out hb)
            clear HO287 BK278 BK279 BK280 HB
            have HO287 := n0_
            have HO296 := n1_
            have BK278 := n2_
            have BK279 := n3_
            have BK280 := n4_
            have HB := n5_
            clear n0_ n1_ n2_ n3_ n4_ n5_ hb ho31
            refine hK.out _ _ ⟨(blk_cell BK278.out 0).trans rfl, (blk_cell BK278.out 1).trans rfl, (blk_cell BK278.out 2).trans rfl, (blk_cell BK279.out 0).trans rfl, (blk_cell BK279.out 1).trans rfl⟩ (fun hHeld => ?_)
            clear hK K
            refine norm_ (a' := ?_) ?_ ?_
            rotate_left
            ·show Act.put _ (some 22) _ = _
             simp only [Act.put, List.setIfInBounds_toArray, List.set_cons_zero, List.set_cons_succ, i64_w, i32_w]
             rfl
            exact norm_ (by simp only [putAll, Act.put, List.setIfInBounds_toArray, List.set_cons_zero, List.set_cons_succ]; first | done | rfl) (hJ1_6 (v286, v295) _ ⟨hHeld, (by (with_reducible repeat (first | apply Kd.R_alloc | apply Kd.R_drewN | apply Kd.R_drew)); exact Kd.R_mono HO287.out (fun _ hk => hk.2)), (by (with_reducible repeat (first | apply Kd.R_alloc | apply Kd.R_drewN | apply Kd.R_drew)); exact Kd.R_mono HO296.out (fun _ hk => hk.2)), bq_ BK278.out, bq_ BK279.out, bq_ BK280.out, (by repeat (first | (with_reducible first | exact HB.out | apply below_alloc | apply pw_below_drewN | apply below_drew1 | refine below_set ?_ GW278.out | refine below_set ?_ GW279.out | refine below_set ?_ GW280.out) | exact HB.out))⟩)
           ·skip
            refine box_step ?hg (N := 7) ?hd (cs := #[.int .i64 0, .int .i64 0, .slice none 0 0, .slice none 0 0, .slice none 0 0, .slice none 0 0, .slice none 0 0, .slice none 0 0, .slice none 0 0, .slice none 0 0, .int .i64 0]) (t := 37) ?hr ?_; (case hd => rfl); (case hg => rfl); (case hr => first | (go_simp; done) | (go_simp; rfl))
            intro gb297 hg w30 hbox hb
            have n0_ := Aside0.mk (Kd.R_below (ra_ HO287.out) hb)
            have n1_ := Aside0.mk (bk_ BK278.out hb)
            have n2_ := Aside0.mk (bk_ BK279.out hb)
            have n3_ := Aside0.mk (bk_ BK280.out hb)
            have n4_ := Aside0.mk (bs_ HB.out hb)
            have n5_ := Aside0.mk (hbox)
            have n6_ := Aside0.mk ((by rw [hg]; exact (bz_ HB.out) : w.heap.size ≤ gb297))
            have n7_ := Aside0.mk ((by rw [hg]; exact (bz_ HB.out) : w.heap.size ≤ gb297))
            have n8_ := Aside0.mk ((by rw [hg]; exact Nat.ne_of_lt (bl_ BK278.out) : gb278 ≠ gb297))
            have n9_ := Aside0.mk ((by rw [hg]; exact Nat.ne_of_gt (bl_ BK278.out) : gb297 ≠ gb278))
            have n10_ := Aside0.mk ((by rw [hg]; exact Nat.ne_of_lt (bl_ BK279.out) : gb279 ≠ gb297))
            have n11_ := Aside0.mk ((by rw [hg]; exact Nat.ne_of_gt (bl_ BK279.out) : gb297 ≠ gb279))
            have n12_ := Aside0.mk ((by rw [hg]; exact Nat.ne_of_lt (bl_ BK280.out) : gb280 ≠ gb297))
            have n13_ := Aside0.mk ((by rw [hg]; exact Nat.ne_of_gt (bl_ BK280.out) : gb297 ≠ gb280))
            clear HO287 BK278 BK279 BK280 HB
            have HO287 := n0_
            have BK278 := n1_
            have BK279 := n2_
            have BK280 := n3_
            have HB := n4_
            have BK297 := n5_
            have GW297 := n6_
            have GE297 := n7_
            have NB278_297 := n8_
            have NB297_278 := n9_
            have NB279_297 := n10_
            have NB297_279 := n11_
            have NB280_297 := n12_
            have NB297_280 := n13_
            clear n0_ n1_ n2_ n3_ n4_ n5_ n6_ n7_ n8_ n9_ n10_ n11_ n12_ n13_ hb hbox hg
            refine hK.out _ _ ⟨(blk_cell BK278.out 0).trans rfl, (blk_cell BK278.out 1).trans rfl, (blk_cell BK278.out 2).trans rfl, (blk_cell BK279.out 0).trans rfl, (blk_cell BK279.out 1).trans rfl⟩ (fun hHeld => ?_)
            clear hK K
            refine norm_ (a' := ?_) ?_ ?_
            rotate_left
            ·show Act.put _ (some 7) _ = _
             simp only [Act.put, List.setIfInBounds_toArray, List.set_cons_zero, List.set_cons_succ, i64_w, i32_w]
             rfl
            exact norm_ (by simp only [putAll, Act.put, List.setIfInBounds_toArray, List.set_cons_zero, List.set_cons_succ]; first | done | rfl) (hJ1_8 (v286, gb297) _ ⟨hHeld, (ra_ HO287.out), bq_ BK278.out, bq_ BK279.out, bq_ BK280.out, bq_ BK297.out, GW297.out, GE297.out, NB278_297.out, NB297_278.out, NB279_297.out, NB297_279.out, NB280_297.out, NB297_280.out, (by repeat (first | (with_reducible first | exact HB.out | apply below_alloc | apply pw_below_drewN | apply below_drew1 | refine below_set ?_ GW278.out | refine below_set ?_ GW279.out | refine below_set ?_ GW280.out | refine below_set ?_ GE297.out) | exact HB.out))⟩)
         ·skip
          rintro ⟨v295, gb297⟩ w31 ⟨hS_, h0_, h1_, h2_, h3_, h4_, h5_, h6_, h7_, h8_, h9_, h10_, h11_, h12_, h13_⟩
          have HO296 : Aside0 (Kd.R (Kd.int .i64) 3 w31 w.heap.size (fun _ => True) v295 y294) := ⟨h0_⟩
          replace BK278 : Aside0 (w31.heap[gb278]? = some (.cells #[.int .i64 a0_0, .int .i64 a0_1, .slice A0_2 l0_2.length c0_2] 28 (0, 0))) := ⟨h1_⟩
          replace BK279 : Aside0 (w31.heap[gb279]? = some (.cells #[.slice A1_0 l1_0.length c1_0, .slice A1_1 l1_1.length c1_1] 32 (0, 0))) := ⟨h2_⟩
          replace BK280 : Aside0 (w31.heap[gb280]? = some (.cells #[.int .i64 0, .int .i64 0, .slice none 0 0, .slice none 0 0, .slice none 0 0, .slice none 0 0, .slice none 0 0, .slice none 0 0, .slice none 0 0, .slice none 0 0, .int .i64 0] 37 (0, 0))) := ⟨h3_⟩
          have BK297 : Aside0 (w31.heap[gb297]? = some (.cells #[.int .i64 0, .int .i64 0, .slice none 0 0, .slice none 0 0, .slice none 0 0, .slice none 0 0, .slice none 0 0, .slice none 0 0, .slice none 0 0, .slice none 0 0, .int .i64 0] 37 (0, 0))) := ⟨h4_⟩
          have GW297 : Aside0 (w.heap.size ≤ gb297) := ⟨h5_⟩
          have GE297 : Aside0 (w.heap.size ≤ gb297) := ⟨h6_⟩
          have NB278_297 : Aside0 (gb278 ≠ gb297) := ⟨h7_⟩
          have NB297_278 : Aside0 (gb297 ≠ gb278) := ⟨h8_⟩
          have NB279_297 : Aside0 (gb279 ≠ gb297) := ⟨h9_⟩
          have NB297_279 : Aside0 (gb297 ≠ gb279) := ⟨h10_⟩
          have NB280_297 : Aside0 (gb280 ≠ gb297) := ⟨h11_⟩
          have NB297_280 : Aside0 (gb297 ≠ gb280) := ⟨h12_⟩
          replace HB : Aside0 (Below w.heap.size w w31) := ⟨h13_⟩
          clear h0_ h1_ h2_ h3_ h4_ h5_ h6_ h7_ h8_ h9_ h10_ h11_ h12_ h13_
          have hHeld : w31.cell? ⟨gb278, 0, none⟩ = some (.int .i64 a0_0) ∧ w31.cell? ⟨gb278, 1, none⟩ = some (.int .i64 a0_1) ∧ w31.cell? ⟨gb278, 2, none⟩ = some (.slice A0_2 l0_2.length c0_2) ∧ w31.cell? ⟨gb279, 0, none⟩ = some (.slice A1_0 l1_0.length c1_0) ∧ w31.cell? ⟨gb279, 1, none⟩ = some (.slice A1_1 l1_1.length c1_1) := hS_
          refine norm_ (a' := ?_) ?_ ?_
          rotate_left
          ·simp only [putAll, Act.put, List.setIfInBounds_toArray, List.set_cons_zero, List.set_cons_succ]
           rfl
          refine one_ (i := 1) (N := some 17) (bt_ 10 375) rfl rfl (one_of HT_.out (by kernel_rfl)) (by decide) (fun K hK => ?_)
          refine goes_ Try.func43 (by kernel_rfl) rfl #[.agg #[.int .i64 a0_0, .int .i64 a0_1, .slice A0_2 l0_2.length c0_2]] (by rfl) rfl rfl (by (try simp only [List.map_toArray, List.map_cons, List.map_nil]); first | done | rfl | (simp only [List.length_drop, List.length_take]; rfl)) ?_
          with_reducible refine (impl_copyMesh.calls a0_0 a0_1 _ _ l0_2 t283 t284 t285 _ ?side1 ?side2 A6.out).mono ?_
          (case side1 => exact cb_ HR0_2.out HB.out)
          (case side2 => exact HC0_2.out)
          rintro e w32 ⟨v286, rfl, ho0, hb⟩
          refine ⟨_, rfl, ?_⟩
          have HO287 := Aside0.mk (Kd.R_lower (Kd.R_new' ho0 (rl_ HO296.out)) (bz_ HB.out))
          replace HO296 := re_ HO296 ho0 hb
          replace BK278 := kb_ BK278 hb
          replace BK279 := kb_ BK279 hb
          replace BK280 := kb_ BK280 hb
          replace BK297 := kb_ BK297 hb
          replace HB := hs_ HB hb
          (try clear hb)
          (try clear hk)
          (try clear ho0)
          refine hK.out _ _ ⟨(blk_cell BK278.out 0).trans rfl, (blk_cell BK278.out 1).trans rfl, (blk_cell BK278.out 2).trans rfl, (blk_cell BK279.out 0).trans rfl, (blk_cell BK279.out 1).trans rfl⟩ (fun hHeld => ?_)
          clear hK K
          refine norm_ (a' := ?_) ?_ ?_
          rotate_left
          ·show Act.put _ (some 17) _ = _
           simp only [Act.put, List.setIfInBounds_toArray, List.set_cons_zero, List.set_cons_succ, i64_w, i32_w]
           rfl
          exact norm_ (by simp only [putAll, Act.put, List.setIfInBounds_toArray, List.set_cons_zero, List.set_cons_succ]; first | done | rfl) (hJ1_6_8 (v286, v295, gb297) _ ⟨hHeld, (by (with_reducible repeat (first | apply Kd.R_alloc | apply Kd.R_drewN | apply Kd.R_drew)); exact Kd.R_mono HO287.out (fun _ hk => hk.2)), (by (with_reducible repeat (first | apply Kd.R_alloc | apply Kd.R_drewN | apply Kd.R_drew)); exact Kd.R_mono HO296.out (fun _ hk => hk.2)), bq_ BK278.out, bq_ BK279.out, bq_ BK280.out, bq_ BK297.out, GW297.out, GE297.out, NB278_297.out, NB297_278.out, NB279_297.out, NB297_279.out, NB280_297.out, NB297_280.out, (by repeat (first | (with_reducible first | exact HB.out | apply below_alloc | apply pw_below_drewN | apply below_drew1 | refine below_set ?_ GW278.out | refine below_set ?_ GW279.out | refine below_set ?_ GW280.out | refine below_set ?_ GE297.out) | exact HB.out))⟩)
        ·skip
         rintro ⟨v286, gb297⟩ w30 ⟨hS_, h0_, h1_, h2_, h3_, h4_, h5_, h6_, h7_, h8_, h9_, h10_, h11_, h12_, h13_⟩
         have HO287 : Aside0 (Kd.R (Kd.int .i64) 3 w30 w.heap.size (fun _ => True) v286 t285) := ⟨h0_⟩
         replace BK278 : Aside0 (w30.heap[gb278]? = some (.cells #[.int .i64 a0_0, .int .i64 a0_1, .slice A0_2 l0_2.length c0_2] 28 (0, 0))) := ⟨h1_⟩
         replace BK279 : Aside0 (w30.heap[gb279]? = some (.cells #[.slice A1_0 l1_0.length c1_0, .slice A1_1 l1_1.length c1_1] 32 (0, 0))) := ⟨h2_⟩
         replace BK280 : Aside0 (w30.heap[gb280]? = some (.cells #[.int .i64 0, .int .i64 0, .slice none 0 0, .slice none 0 0, .slice none 0 0, .slice none 0 0, .slice none 0 0, .slice none 0 0, .slice none 0 0, .slice none 0 0, .int .i64 0] 37 (0, 0))) := ⟨h3_⟩
         have BK297 : Aside0 (w30.heap[gb297]? = some (.cells #[.int .i64 0, .int .i64 0, .slice none 0 0, .slice none 0 0, .slice none 0 0, .slice none 0 0, .slice none 0 0, .slice none 0 0, .slice none 0 0, .slice none 0 0, .int .i64 0] 37 (0, 0))) := ⟨h4_⟩
         have GW297 : Aside0 (w.heap.size ≤ gb297) := ⟨h5_⟩
         have GE297 : Aside0 (w.heap.size ≤ gb297) := ⟨h6_⟩
         have NB278_297 : Aside0 (gb278 ≠ gb297) := ⟨h7_⟩
         have NB297_278 : Aside0 (gb297 ≠ gb278) := ⟨h8_⟩
         have NB279_297 : Aside0 (gb279 ≠ gb297) := ⟨h9_⟩
         have NB297_279 : Aside0 (gb297 ≠ gb279) := ⟨h10_⟩
         have NB280_297 : Aside0 (gb280 ≠ gb297) := ⟨h11_⟩
         have NB297_280 : Aside0 (gb297 ≠ gb280) := ⟨h12_⟩
         replace HB : Aside0 (Below w.heap.size w w30) := ⟨h13_⟩
         clear h0_ h1_ h2_ h3_ h4_ h5_ h6_ h7_ h8_ h9_ h10_ h11_ h12_ h13_
         have hHeld : w30.cell? ⟨gb278, 0, none⟩ = some (.int .i64 a0_0) ∧ w30.cell? ⟨gb278, 1, none⟩ = some (.int .i64 a0_1) ∧ w30.cell? ⟨gb278, 2, none⟩ = some (.slice A0_2 l0_2.length c0_2) ∧ w30.cell? ⟨gb279, 0, none⟩ = some (.slice A1_0 l1_0.length c1_0) ∧ w30.cell? ⟨gb279, 1, none⟩ = some (.slice A1_1 l1_1.length c1_1) := hS_
         refine norm_ (a' := ?_) ?_ ?_
         rotate_left
         ·simp only [putAll, Act.put, List.setIfInBounds_toArray, List.set_cons_zero, List.set_cons_succ]
          rfl
         refine two_ (i := 3) (j := 6) (Ni := some 19) (Nj := some 22) #[true, true, true, true, true, true, false, false, true, false] #[true, true, true, false, true, true, true, false, true, false] rfl rfl rfl rfl (two_of HT_.out (by kernel_rfl)) (by decide) (by decide) (fun K hK => ?_) (fun K hK => ?_)
         ·skip
          refine goes_ Try.func44 (by kernel_rfl) rfl #[.agg #[.slice A1_0 l1_0.length c1_0, .slice A1_1 l1_1.length c1_1]] (by rfl) rfl rfl (by (try simp only [List.map_toArray, List.map_cons, List.map_nil]); first | done | rfl | (simp only [List.length_drop, List.length_take]; rfl)) ?_
          with_reducible refine (impl_copyClasses.calls _ _ l1_0 _ _ l1_1 t288 t291 _ ?side1 ?side2 ?side3 ?side4 A7.out).mono ?_
          (case side1 => exact cb_ HR1_0.out HB.out)
          (case side2 => exact HC1_0.out)
          (case side3 => exact cb_ HR1_1.out HB.out)
          (case side4 => exact HC1_1.out)
          rintro e w31 ⟨v289, v292, rfl, ho0, ho1, hb⟩
          refine ⟨_, rfl, ?_⟩
          have HO290 := Aside0.mk (Kd.R_lower (Kd.R_new' ho0 (rl_ HO287.out)) (bz_ HB.out))
          have HO293 := Aside0.mk (Kd.R_lower (Kd.R_new' ho1 (rl_ HO287.out)) (bz_ HB.out))
          replace HO287 := Aside0.mk (Kd.R_mono (Kd.R_told (Kd.R_told (Kd.R_old (ra_ HO287.out) hb) (Kd.R_base ho0)) (Kd.R_base ho1)) (fun _ h_ => h_.1))
          replace BK278 := kb_ BK278 hb
          replace BK279 := kb_ BK279 hb
          replace BK280 := kb_ BK280 hb
          replace BK297 := kb_ BK297 hb
          replace HB := hs_ HB hb
          (try clear hb)
          (try clear hk)
          (try clear ho0)
          (try clear ho1)
          refine hK.out _ _ ⟨(blk_cell BK278.out 0).trans rfl, (blk_cell BK278.out 1).trans rfl, (blk_cell BK278.out 2).trans rfl, (blk_cell BK279.out 0).trans rfl, (blk_cell BK279.out 1).trans rfl⟩ (fun hHeld => ?_)
          clear hK K
          refine norm_ (a' := ?_) ?_ ?_
          rotate_left
          ·show Act.put _ (some 19) _ = _
           simp only [Act.put, List.setIfInBounds_toArray, List.set_cons_zero, List.set_cons_succ, i64_w, i32_w]
           rfl
          exact norm_ (by simp only [putAll, Act.put, List.setIfInBounds_toArray, List.set_cons_zero, List.set_cons_succ]; first | done | rfl) (hJ1_3_8 (v286, v289, v292, gb297) _ ⟨hHeld, (by (with_reducible repeat (first | apply Kd.R_alloc | apply Kd.R_drewN | apply Kd.R_drew)); exact Kd.R_mono HO287.out (fun _ hk => ⟨hk.1.2, hk.2⟩)), (by (with_reducible repeat (first | apply Kd.R_alloc | apply Kd.R_drewN | apply Kd.R_drew)); exact Kd.R_mono HO290.out (fun _ hk => ⟨hk.2, hk.1⟩)), (by (with_reducible repeat (first | apply Kd.R_alloc | apply Kd.R_drewN | apply Kd.R_drew)); exact Kd.R_mono HO293.out (fun _ hk => ⟨hk.2, hk.1⟩)), bq_ BK278.out, bq_ BK279.out, bq_ BK280.out, bq_ BK297.out, GW297.out, GE297.out, NB278_297.out, NB297_278.out, NB279_297.out, NB297_279.out, NB280_297.out, NB297_280.out, (by repeat (first | (with_reducible first | exact HB.out | apply below_alloc | apply pw_below_drewN | apply below_drew1 | refine below_set ?_ GW278.out | refine below_set ?_ GW279.out | refine below_set ?_ GW280.out | refine below_set ?_ GE297.out) | exact HB.out))⟩)
         ·skip
          refine Kd.R_make_step (Kd.int .i64) _ 3 (by rfl) (N := 22) rfl 26 _ _ rfl ji8 rfl rfl Try.underlying26 (.int .i64 0) 8 info3 rfl (by decide) (by omega) 0 (ok := fun _ => True) (okp := fun _ => True) rfl (fun _ hk => hk) trivial (of_decide_eq_true dg_) (Nat.le_trans (Nat.mul_le_mul_right _ (of_decide_eq_true dg_ : ji8.toNat ≤ 35184372088832)) (by omega)) (Below.refl _ _) (Nat.le_refl _) ?_
          intro v295 w31 ho32 hb hg_ hnew_
          clear hg_ hnew_
          (first | rw [← Ny294.out] at ho32 | (simp only [Int.reduceToNat] at ho32; rw [← Ny294.out] at ho32))
          have n0_ := Aside0.mk (Kd.R_elder' (ra_ HO287.out) (Kd.R_base ho32) hb)
          have n1_ := Aside0.mk (Kd.R_lower (Kd.R_new' ho32 (rl_ HO287.out)) (bz_ HB.out))
          have n2_ := Aside0.mk (bk_ BK278.out hb)
          have n3_ := Aside0.mk (bk_ BK279.out hb)
          have n4_ := Aside0.mk (bk_ BK280.out hb)
          have n5_ := Aside0.mk (bk_ BK297.out hb)
          have n6_ := Aside0.mk (bs_ HB.out hb)
          clear HO287 BK278 BK279 BK280 BK297 HB
          have HO287 := n0_
          have HO296 := n1_
          have BK278 := n2_
          have BK279 := n3_
          have BK280 := n4_
          have BK297 := n5_
          have HB := n6_
          clear n0_ n1_ n2_ n3_ n4_ n5_ n6_ hb ho32
          refine hK.out _ _ ⟨(blk_cell BK278.out 0).trans rfl, (blk_cell BK278.out 1).trans rfl, (blk_cell BK278.out 2).trans rfl, (blk_cell BK279.out 0).trans rfl, (blk_cell BK279.out 1).trans rfl⟩ (fun hHeld => ?_)
          clear hK K
          refine norm_ (a' := ?_) ?_ ?_
          rotate_left
          ·show Act.put _ (some 22) _ = _
           simp only [Act.put, List.setIfInBounds_toArray, List.set_cons_zero, List.set_cons_succ, i64_w, i32_w]
           rfl
          exact norm_ (by simp only [putAll, Act.put, List.setIfInBounds_toArray, List.set_cons_zero, List.set_cons_succ]; first | done | rfl) (hJ1_6_8 (v286, v295, gb297) _ ⟨hHeld, (by (with_reducible repeat (first | apply Kd.R_alloc | apply Kd.R_drewN | apply Kd.R_drew)); exact Kd.R_mono HO287.out (fun _ hk => hk.2)), (by (with_reducible repeat (first | apply Kd.R_alloc | apply Kd.R_drewN | apply Kd.R_drew)); exact Kd.R_mono HO296.out (fun _ hk => hk.2)), bq_ BK278.out, bq_ BK279.out, bq_ BK280.out, bq_ BK297.out, GW297.out, GE297.out, NB278_297.out, NB297_278.out, NB279_297.out, NB297_279.out, NB280_297.out, NB297_280.out, (by repeat (first | (with_reducible first | exact HB.out | apply below_alloc | apply pw_below_drewN | apply below_drew1 | refine below_set ?_ GW278.out | refine below_set ?_ GW279.out | refine below_set ?_ GW280.out | refine below_set ?_ GE297.out) | exact HB.out))⟩)
       ·skip
        rintro ⟨v286, v295⟩ w31 ⟨hS_, h0_, h1_, h2_, h3_, h4_, h5_⟩
        have HO287 : Aside0 (Kd.R (Kd.int .i64) 3 w31 w.heap.size (fun k_ => some k_ ≠ (v295 : Value).ownBlock) v286 t285) := ⟨h0_⟩
        have HO296 : Aside0 (Kd.R (Kd.int .i64) 3 w31 w.heap.size (fun k_ => some k_ ≠ (v286 : Value).ownBlock) v295 y294) := ⟨h1_⟩
        replace BK278 : Aside0 (w31.heap[gb278]? = some (.cells #[.int .i64 a0_0, .int .i64 a0_1, .slice A0_2 l0_2.length c0_2] 28 (0, 0))) := ⟨h2_⟩
        replace BK279 : Aside0 (w31.heap[gb279]? = some (.cells #[.slice A1_0 l1_0.length c1_0, .slice A1_1 l1_1.length c1_1] 32 (0, 0))) := ⟨h3_⟩
        replace BK280 : Aside0 (w31.heap[gb280]? = some (.cells #[.int .i64 0, .int .i64 0, .slice none 0 0, .slice none 0 0, .slice none 0 0, .slice none 0 0, .slice none 0 0, .slice none 0 0, .slice none 0 0, .slice none 0 0, .int .i64 0] 37 (0, 0))) := ⟨h4_⟩
        replace HB : Aside0 (Below w.heap.size w w31) := ⟨h5_⟩
        clear h0_ h1_ h2_ h3_ h4_ h5_
        have hHeld : w31.cell? ⟨gb278, 0, none⟩ = some (.int .i64 a0_0) ∧ w31.cell? ⟨gb278, 1, none⟩ = some (.int .i64 a0_1) ∧ w31.cell? ⟨gb278, 2, none⟩ = some (.slice A0_2 l0_2.length c0_2) ∧ w31.cell? ⟨gb279, 0, none⟩ = some (.slice A1_0 l1_0.length c1_0) ∧ w31.cell? ⟨gb279, 1, none⟩ = some (.slice A1_1 l1_1.length c1_1) := hS_
        refine norm_ (a' := ?_) ?_ ?_
        rotate_left
        ·simp only [putAll, Act.put, List.setIfInBounds_toArray, List.set_cons_zero, List.set_cons_succ]
         rfl
        refine two_ (i := 3) (j := 8) (Ni := some 19) (Nj := some 7) #[true, true, true, true, true, true, true, false, false, false] #[true, true, true, false, true, true, true, false, true, false] rfl rfl rfl rfl (two_of HT_.out (by kernel_rfl)) (by decide) (by decide) (fun K hK => ?_) (fun K hK => ?_)
        ·skip
         refine goes_ Try.func44 (by kernel_rfl) rfl #[.agg #[.slice A1_0 l1_0.length c1_0, .slice A1_1 l1_1.length c1_1]] (by rfl) rfl rfl (by (try simp only [List.map_toArray, List.map_cons, List.map_nil]); first | done | rfl | (simp only [List.length_drop, List.length_take]; rfl)) ?_
         with_reducible refine (impl_copyClasses.calls _ _ l1_0 _ _ l1_1 t288 t291 _ ?side1 ?side2 ?side3 ?side4 A7.out).mono ?_
         (case side1 => exact cb_ HR1_0.out HB.out)
         (case side2 => exact HC1_0.out)
         (case side3 => exact cb_ HR1_1.out HB.out)
         (case side4 => exact HC1_1.out)
         rintro e w32 ⟨v289, v292, rfl, ho0, ho1, hb⟩
         refine ⟨_, rfl, ?_⟩
         have HO290 := Aside0.mk (Kd.R_lower (Kd.R_new' (Kd.R_new' ho0 (rl_ HO287.out)) (rl_ HO296.out)) (bz_ HB.out))
         have HO293 := Aside0.mk (Kd.R_lower (Kd.R_new' (Kd.R_new' ho1 (rl_ HO287.out)) (rl_ HO296.out)) (bz_ HB.out))
         replace HO287 := Aside0.mk (Kd.R_mono (Kd.R_told (Kd.R_told (Kd.R_old (ra_ HO287.out) hb) (Kd.R_base ho0)) (Kd.R_base ho1)) (fun _ h_ => h_.1))
         replace HO296 := Aside0.mk (Kd.R_mono (Kd.R_told (Kd.R_told (Kd.R_old (ra_ HO296.out) hb) (Kd.R_base ho0)) (Kd.R_base ho1)) (fun _ h_ => h_.1))
         replace BK278 := kb_ BK278 hb
         replace BK279 := kb_ BK279 hb
         replace BK280 := kb_ BK280 hb
         replace HB := hs_ HB hb
         (try clear hb)
         (try clear hk)
         (try clear ho0)
         (try clear ho1)
         obtain ⟨Ao33, co33, eo33⟩ := Kd.R_slice HO296.out
         (first | subst eo33 | (injection eo33 with f1_ f2_ f3_; have f4_ := f1_.symm; have f5_ := f3_.symm; clear f1_ f2_ f3_; subst f4_; subst f5_))
         obtain ⟨Ao34, co34, eo34⟩ := Kd.R_slice HO293.out
         (first | subst eo34 | (injection eo34 with f1_ f2_ f3_; have f4_ := f1_.symm; have f5_ := f3_.symm; clear f1_ f2_ f3_; subst f4_; subst f5_))
         obtain ⟨Ao35, co35, eo35⟩ := Kd.R_slice HO290.out
         (first | subst eo35 | (injection eo35 with f1_ f2_ f3_; have f4_ := f1_.symm; have f5_ := f3_.symm; clear f1_ f2_ f3_; subst f4_; subst f5_))
         obtain ⟨Ao36, co36, eo36⟩ := Kd.R_slice HO287.out
         (first | subst eo36 | (injection eo36 with f1_ f2_ f3_; have f4_ := f1_.symm; have f5_ := f3_.symm; clear f1_ f2_ f3_; subst f4_; subst f5_))
         refine hK.out _ _ ⟨(blk_cell BK278.out 0).trans rfl, (blk_cell BK278.out 1).trans rfl, (blk_cell BK278.out 2).trans rfl, (blk_cell BK279.out 0).trans rfl, (blk_cell BK279.out 1).trans rfl⟩ (fun hHeld => ?_)
         clear hK K
         refine norm_ (a' := ?_) ?_ ?_
         rotate_left
         ·show Act.put _ (some 19) _ = _
          simp only [Act.put, List.setIfInBounds_toArray, List.set_cons_zero, List.set_cons_succ, i64_w, i32_w]
          rfl
         refine pu_ 7 23 (bt_ 10 255) HT_ ?_
         exact norm_ (by simp only [putAll, Act.put, List.setIfInBounds_toArray, List.set_cons_zero, List.set_cons_succ]; first | done | rfl) (hJ1_3_6 (.slice Ao36 t285.length co36, .slice Ao35 t288.length co35, .slice Ao34 t291.length co34, .slice Ao33 y294.length co33) _ ⟨hHeld, (by (with_reducible repeat (first | apply Kd.R_alloc | apply Kd.R_drewN | apply Kd.R_drew)); exact Kd.R_mono HO287.out (fun _ hk => ⟨hk.1.2, ⟨hk.2, hk.1.1⟩⟩)), (by (with_reducible repeat (first | apply Kd.R_alloc | apply Kd.R_drewN | apply Kd.R_drew)); exact Kd.R_mono HO290.out (fun _ hk => ⟨hk.1.2, ⟨hk.1.1, hk.2⟩⟩)), (by (with_reducible repeat (first | apply Kd.R_alloc | apply Kd.R_drewN | apply Kd.R_drew)); exact Kd.R_mono HO293.out (fun _ hk => ⟨hk.1.2, ⟨hk.1.1, hk.2⟩⟩)), (by (with_reducible repeat (first | apply Kd.R_alloc | apply Kd.R_drewN | apply Kd.R_drew)); exact Kd.R_mono HO296.out (fun _ hk => ⟨hk.1.1, ⟨hk.1.2, hk.2⟩⟩)), bq_ BK278.out, bq_ BK279.out, bq_ BK280.out, (by repeat (first | (with_reducible first | exact HB.out | apply below_alloc | apply pw_below_drewN | apply below_drew1 | refine below_set ?_ GW278.out | refine below_set ?_ GW279.out | refine below_set ?_ GW280.out) | exact HB.out))⟩)
        ·skip
         refine box_step ?hg (N := 7) ?hd (cs := #[.int .i64 0, .int .i64 0, .slice none 0 0, .slice none 0 0, .slice none 0 0, .slice none 0 0, .slice none 0 0, .slice none 0 0, .slice none 0 0, .slice none 0 0, .int .i64 0]) (t := 37) ?hr ?_; (case hd => rfl); (case hg => rfl); (case hr => first | (go_simp; done) | (go_simp; rfl))
         intro gb297 hg w32 hbox hb
         have n0_ := Aside0.mk (Kd.R_below (ra_ HO287.out) hb)
         have n1_ := Aside0.mk (Kd.R_below (ra_ HO296.out) hb)
         have n2_ := Aside0.mk (bk_ BK278.out hb)
         have n3_ := Aside0.mk (bk_ BK279.out hb)
         have n4_ := Aside0.mk (bk_ BK280.out hb)
         have n5_ := Aside0.mk (bs_ HB.out hb)
         have n6_ := Aside0.mk (hbox)
         have n7_ := Aside0.mk ((by rw [hg]; exact (bz_ HB.out) : w.heap.size ≤ gb297))
         have n8_ := Aside0.mk ((by rw [hg]; exact (bz_ HB.out) : w.heap.size ≤ gb297))
         have n9_ := Aside0.mk ((by rw [hg]; exact Nat.ne_of_lt (bl_ BK278.out) : gb278 ≠ gb297))
         have n10_ := Aside0.mk ((by rw [hg]; exact Nat.ne_of_gt (bl_ BK278.out) : gb297 ≠ gb278))
         have n11_ := Aside0.mk ((by rw [hg]; exact Nat.ne_of_lt (bl_ BK279.out) : gb279 ≠ gb297))
         have n12_ := Aside0.mk ((by rw [hg]; exact Nat.ne_of_gt (bl_ BK279.out) : gb297 ≠ gb279))
         have n13_ := Aside0.mk ((by rw [hg]; exact Nat.ne_of_lt (bl_ BK280.out) : gb280 ≠ gb297))
         have n14_ := Aside0.mk ((by rw [hg]; exact Nat.ne_of_gt (bl_ BK280.out) : gb297 ≠ gb280))
         clear HO287 HO296 BK278 BK279 BK280 HB
         have HO287 := n0_
         have HO296 := n1_
         have BK278 := n2_
         have BK279 := n3_
         have BK280 := n4_
         have HB := n5_
         have BK297 := n6_
         have GW297 := n7_
         have GE297 := n8_
         have NB278_297 := n9_
         have NB297_278 := n10_
         have NB279_297 := n11_
         have NB297_279 := n12_
         have NB280_297 := n13_
         have NB297_280 := n14_
         clear n0_ n1_ n2_ n3_ n4_ n5_ n6_ n7_ n8_ n9_ n10_ n11_ n12_ n13_ n14_ hb hbox hg
         refine hK.out _ _ ⟨(blk_cell BK278.out 0).trans rfl, (blk_cell BK278.out 1).trans rfl, (blk_cell BK278.out 2).trans rfl, (blk_cell BK279.out 0).trans rfl, (blk_cell BK279.out 1).trans rfl⟩ (fun hHeld => ?_)
         clear hK K
         refine norm_ (a' := ?_) ?_ ?_
         rotate_left
         ·show Act.put _ (some 7) _ = _
          simp only [Act.put, List.setIfInBounds_toArray, List.set_cons_zero, List.set_cons_succ, i64_w, i32_w]
          rfl
         exact norm_ (by simp only [putAll, Act.put, List.setIfInBounds_toArray, List.set_cons_zero, List.set_cons_succ]; first | done | rfl) (hJ1_6_8 (v286, v295, gb297) _ ⟨hHeld, (ra_ HO287.out), (ra_ HO296.out), bq_ BK278.out, bq_ BK279.out, bq_ BK280.out, bq_ BK297.out, GW297.out, GE297.out, NB278_297.out, NB297_278.out, NB279_297.out, NB297_279.out, NB280_297.out, NB297_280.out, (by repeat (first | (with_reducible first | exact HB.out | apply below_alloc | apply pw_below_drewN | apply below_drew1 | refine below_set ?_ GW278.out | refine below_set ?_ GW279.out | refine below_set ?_ GW280.out | refine below_set ?_ GE297.out) | exact HB.out))⟩)
      ·skip
       rintro ⟨v286, v289, v292⟩ w30 ⟨hS_, h0_, h1_, h2_, h3_, h4_, h5_, h6_⟩
       have HO287 : Aside0 (Kd.R (Kd.int .i64) 3 w30 w.heap.size (fun k_ => some k_ ≠ (v289 : Value).ownBlock ∧ some k_ ≠ (v292 : Value).ownBlock) v286 t285) := ⟨h0_⟩
       have HO290 : Aside0 (Kd.R (Kd.int .i64) 3 w30 w.heap.size (fun k_ => some k_ ≠ (v286 : Value).ownBlock ∧ some k_ ≠ (v292 : Value).ownBlock) v289 t288) := ⟨h1_⟩
       have HO293 : Aside0 (Kd.R (Kd.int .i64) 3 w30 w.heap.size (fun k_ => some k_ ≠ (v286 : Value).ownBlock ∧ some k_ ≠ (v289 : Value).ownBlock) v292 t291) := ⟨h2_⟩
       replace BK278 : Aside0 (w30.heap[gb278]? = some (.cells #[.int .i64 a0_0, .int .i64 a0_1, .slice A0_2 l0_2.length c0_2] 28 (0, 0))) := ⟨h3_⟩
       replace BK279 : Aside0 (w30.heap[gb279]? = some (.cells #[.slice A1_0 l1_0.length c1_0, .slice A1_1 l1_1.length c1_1] 32 (0, 0))) := ⟨h4_⟩
       replace BK280 : Aside0 (w30.heap[gb280]? = some (.cells #[.int .i64 0, .int .i64 0, .slice none 0 0, .slice none 0 0, .slice none 0 0, .slice none 0 0, .slice none 0 0, .slice none 0 0, .slice none 0 0, .slice none 0 0, .int .i64 0] 37 (0, 0))) := ⟨h5_⟩
       replace HB : Aside0 (Below w.heap.size w w30) := ⟨h6_⟩
       clear h0_ h1_ h2_ h3_ h4_ h5_ h6_
       have hHeld : w30.cell? ⟨gb278, 0, none⟩ = some (.int .i64 a0_0) ∧ w30.cell? ⟨gb278, 1, none⟩ = some (.int .i64 a0_1) ∧ w30.cell? ⟨gb278, 2, none⟩ = some (.slice A0_2 l0_2.length c0_2) ∧ w30.cell? ⟨gb279, 0, none⟩ = some (.slice A1_0 l1_0.length c1_0) ∧ w30.cell? ⟨gb279, 1, none⟩ = some (.slice A1_1 l1_1.length c1_1) := hS_
       refine norm_ (a' := ?_) ?_ ?_
       rotate_left
       ·simp only [putAll, Act.put, List.setIfInBounds_toArray, List.set_cons_zero, List.set_cons_succ]
        rfl
       refine two_ (i := 6) (j := 8) (Ni := some 22) (Nj := some 7) #[true, true, true, true, true, true, true, false, false, false] #[true, true, true, true, true, true, false, false, true, false] rfl rfl rfl rfl (two_of HT_.out (by kernel_rfl)) (by decide) (by decide) (fun K hK => ?_) (fun K hK => ?_)
       ·skip
        refine Kd.R_make_step (Kd.int .i64) _ 3 (by rfl) (N := 22) rfl 26 _ _ rfl ji8 rfl rfl Try.underlying26 (.int .i64 0) 8 info3 rfl (by decide) (by omega) 0 (ok := fun _ => True) (okp := fun _ => True) rfl (fun _ hk => hk) trivial (of_decide_eq_true dg_) (Nat.le_trans (Nat.mul_le_mul_right _ (of_decide_eq_true dg_ : ji8.toNat ≤ 35184372088832)) (by omega)) (Below.refl _ _) (Nat.le_refl _) ?_
        intro v295 w31 ho32 hb hg_ hnew_
        clear hg_ hnew_
        (first | rw [← Ny294.out] at ho32 | (simp only [Int.reduceToNat] at ho32; rw [← Ny294.out] at ho32))
        have n0_ := Aside0.mk (Kd.R_elder' (ra_ HO287.out) (Kd.R_base ho32) hb)
        have n1_ := Aside0.mk (Kd.R_elder' (ra_ HO290.out) (Kd.R_base ho32) hb)
        have n2_ := Aside0.mk (Kd.R_elder' (ra_ HO293.out) (Kd.R_base ho32) hb)
        have n3_ := Aside0.mk (Kd.R_lower (Kd.R_new' (Kd.R_new' (Kd.R_new' ho32 (rl_ HO287.out)) (rl_ HO290.out)) (rl_ HO293.out)) (bz_ HB.out))
        have n4_ := Aside0.mk (bk_ BK278.out hb)
        have n5_ := Aside0.mk (bk_ BK279.out hb)
        have n6_ := Aside0.mk (bk_ BK280.out hb)
        have n7_ := Aside0.mk (bs_ HB.out hb)
        clear HO287 HO290 HO293 BK278 BK279 BK280 HB
        have HO287 := n0_
        have HO290 := n1_
        have HO293 := n2_
        have HO296 := n3_
        have BK278 := n4_
        have BK279 := n5_
        have BK280 := n6_
        have HB := n7_
        clear n0_ n1_ n2_ n3_ n4_ n5_ n6_ n7_ hb ho32
        obtain ⟨Ao33, co33, eo33⟩ := Kd.R_slice HO296.out
        (first | subst eo33 | (injection eo33 with f1_ f2_ f3_; have f4_ := f1_.symm; have f5_ := f3_.symm; clear f1_ f2_ f3_; subst f4_; subst f5_))
        obtain ⟨Ao34, co34, eo34⟩ := Kd.R_slice HO293.out
        (first | subst eo34 | (injection eo34 with f1_ f2_ f3_; have f4_ := f1_.symm; have f5_ := f3_.symm; clear f1_ f2_ f3_; subst f4_; subst f5_))
        obtain ⟨Ao35, co35, eo35⟩ := Kd.R_slice HO290.out
        (first | subst eo35 | (injection eo35 with f1_ f2_ f3_; have f4_ := f1_.symm; have f5_ := f3_.symm; clear f1_ f2_ f3_; subst f4_; subst f5_))
        obtain ⟨Ao36, co36, eo36⟩ := Kd.R_slice HO287.out
        (first | subst eo36 | (injection eo36 with f1_ f2_ f3_; have f4_ := f1_.symm; have f5_ := f3_.symm; clear f1_ f2_ f3_; subst f4_; subst f5_))
        refine hK.out _ _ ⟨(blk_cell BK278.out 0).trans rfl, (blk_cell BK278.out 1).trans rfl, (blk_cell BK278.out 2).trans rfl, (blk_cell BK279.out 0).trans rfl, (blk_cell BK279.out 1).trans rfl⟩ (fun hHeld => ?_)
        clear hK K
        refine norm_ (a' := ?_) ?_ ?_
        rotate_left
        ·show Act.put _ (some 22) _ = _
         simp only [Act.put, List.setIfInBounds_toArray, List.set_cons_zero, List.set_cons_succ, i64_w, i32_w]
         rfl
        refine pu_ 7 23 (bt_ 10 255) HT_ ?_
        exact norm_ (by simp only [putAll, Act.put, List.setIfInBounds_toArray, List.set_cons_zero, List.set_cons_succ]; first | done | rfl) (hJ1_3_6 (.slice Ao36 t285.length co36, .slice Ao35 t288.length co35, .slice Ao34 t291.length co34, .slice Ao33 y294.length co33) _ ⟨hHeld, (by (with_reducible repeat (first | apply Kd.R_alloc | apply Kd.R_drewN | apply Kd.R_drew)); exact Kd.R_mono HO287.out (fun _ hk => ⟨hk.1.1, ⟨hk.1.2, hk.2⟩⟩)), (by (with_reducible repeat (first | apply Kd.R_alloc | apply Kd.R_drewN | apply Kd.R_drew)); exact Kd.R_mono HO290.out (fun _ hk => ⟨hk.1.1, ⟨hk.1.2, hk.2⟩⟩)), (by (with_reducible repeat (first | apply Kd.R_alloc | apply Kd.R_drewN | apply Kd.R_drew)); exact Kd.R_mono HO293.out (fun _ hk => ⟨hk.1.1, ⟨hk.1.2, hk.2⟩⟩)), (by (with_reducible repeat (first | apply Kd.R_alloc | apply Kd.R_drewN | apply Kd.R_drew)); exact Kd.R_mono HO296.out (fun _ hk => ⟨hk.1.1.2, ⟨hk.1.2, hk.2⟩⟩)), bq_ BK278.out, bq_ BK279.out, bq_ BK280.out, (by repeat (first | (with_reducible first | exact HB.out | apply below_alloc | apply pw_below_drewN | apply below_drew1 | refine below_set ?_ GW278.out | refine below_set ?_ GW279.out | refine below_set ?_ GW280.out) | exact HB.out))⟩)
       ·skip
        refine box_step ?hg (N := 7) ?hd (cs := #[.int .i64 0, .int .i64 0, .slice none 0 0, .slice none 0 0, .slice none 0 0, .slice none 0 0, .slice none 0 0, .slice none 0 0, .slice none 0 0, .slice none 0 0, .int .i64 0]) (t := 37) ?hr ?_; (case hd => rfl); (case hg => rfl); (case hr => first | (go_simp; done) | (go_simp; rfl))
        intro gb297 hg w31 hbox hb
        have n0_ := Aside0.mk (Kd.R_below (ra_ HO287.out) hb)
        have n1_ := Aside0.mk (Kd.R_below (ra_ HO290.out) hb)
        have n2_ := Aside0.mk (Kd.R_below (ra_ HO293.out) hb)
        have n3_ := Aside0.mk (bk_ BK278.out hb)
        have n4_ := Aside0.mk (bk_ BK279.out hb)
        have n5_ := Aside0.mk (bk_ BK280.out hb)
        have n6_ := Aside0.mk (bs_ HB.out hb)
        have n7_ := Aside0.mk (hbox)
        have n8_ := Aside0.mk ((by rw [hg]; exact (bz_ HB.out) : w.heap.size ≤ gb297))
        have n9_ := Aside0.mk ((by rw [hg]; exact (bz_ HB.out) : w.heap.size ≤ gb297))
        have n10_ := Aside0.mk ((by rw [hg]; exact Nat.ne_of_lt (bl_ BK278.out) : gb278 ≠ gb297))
        have n11_ := Aside0.mk ((by rw [hg]; exact Nat.ne_of_gt (bl_ BK278.out) : gb297 ≠ gb278))
        have n12_ := Aside0.mk ((by rw [hg]; exact Nat.ne_of_lt (bl_ BK279.out) : gb279 ≠ gb297))
        have n13_ := Aside0.mk ((by rw [hg]; exact Nat.ne_of_gt (bl_ BK279.out) : gb297 ≠ gb279))
        have n14_ := Aside0.mk ((by rw [hg]; exact Nat.ne_of_lt (bl_ BK280.out) : gb280 ≠ gb297))
        have n15_ := Aside0.mk ((by rw [hg]; exact Nat.ne_of_gt (bl_ BK280.out) : gb297 ≠ gb280))
        clear HO287 HO290 HO293 BK278 BK279 BK280 HB
        have HO287 := n0_
        have HO290 := n1_
        have HO293 := n2_
        have BK278 := n3_
        have BK279 := n4_
        have BK280 := n5_
        have HB := n6_
        have BK297 := n7_
        have GW297 := n8_
        have GE297 := n9_
        have NB278_297 := n10_
        have NB297_278 := n11_
        have NB279_297 := n12_
        have NB297_279 := n13_
        have NB280_297 := n14_
        have NB297_280 := n15_
        clear n0_ n1_ n2_ n3_ n4_ n5_ n6_ n7_ n8_ n9_ n10_ n11_ n12_ n13_ n14_ n15_ hb hbox hg
        refine hK.out _ _ ⟨(blk_cell BK278.out 0).trans rfl, (blk_cell BK278.out 1).trans rfl, (blk_cell BK278.out 2).trans rfl, (blk_cell BK279.out 0).trans rfl, (blk_cell BK279.out 1).trans rfl⟩ (fun hHeld => ?_)
        clear hK K
        refine norm_ (a' := ?_) ?_ ?_
        rotate_left
        ·show Act.put _ (some 7) _ = _
         simp only [Act.put, List.setIfInBounds_toArray, List.set_cons_zero, List.set_cons_succ, i64_w, i32_w]
         rfl
        exact norm_ (by simp only [putAll, Act.put, List.setIfInBounds_toArray, List.set_cons_zero, List.set_cons_succ]; first | done | rfl) (hJ1_3_8 (v286, v289, v292, gb297) _ ⟨hHeld, (ra_ HO287.out), (ra_ HO290.out), (ra_ HO293.out), bq_ BK278.out, bq_ BK279.out, bq_ BK280.out, bq_ BK297.out, GW297.out, GE297.out, NB278_297.out, NB297_278.out, NB279_297.out, NB297_279.out, NB280_297.out, NB297_280.out, (by repeat (first | (with_reducible first | exact HB.out | apply below_alloc | apply pw_below_drewN | apply below_drew1 | refine below_set ?_ GW278.out | refine below_set ?_ GW279.out | refine below_set ?_ GW280.out | refine below_set ?_ GE297.out) | exact HB.out))⟩)
     ·skip
      rintro ⟨v286, v295, gb297⟩ w32 ⟨hS_, h0_, h1_, h2_, h3_, h4_, h5_, h6_, h7_, h8_, h9_, h10_, h11_, h12_, h13_, h14_⟩
      have HO287 : Aside0 (Kd.R (Kd.int .i64) 3 w32 w.heap.size (fun k_ => some k_ ≠ (v295 : Value).ownBlock) v286 t285) := ⟨h0_⟩
      have HO296 : Aside0 (Kd.R (Kd.int .i64) 3 w32 w.heap.size (fun k_ => some k_ ≠ (v286 : Value).ownBlock) v295 y294) := ⟨h1_⟩
      replace BK278 : Aside0 (w32.heap[gb278]? = some (.cells #[.int .i64 a0_0, .int .i64 a0_1, .slice A0_2 l0_2.length c0_2] 28 (0, 0))) := ⟨h2_⟩
      replace BK279 : Aside0 (w32.heap[gb279]? = some (.cells #[.slice A1_0 l1_0.length c1_0, .slice A1_1 l1_1.length c1_1] 32 (0, 0))) := ⟨h3_⟩
      replace BK280 : Aside0 (w32.heap[gb280]? = some (.cells #[.int .i64 0, .int .i64 0, .slice none 0 0, .slice none 0 0, .slice none 0 0, .slice none 0 0, .slice none 0 0, .slice none 0 0, .slice none 0 0, .slice none 0 0, .int .i64 0] 37 (0, 0))) := ⟨h4_⟩
      have BK297 : Aside0 (w32.heap[gb297]? = some (.cells #[.int .i64 0, .int .i64 0, .slice none 0 0, .slice none 0 0, .slice none 0 0, .slice none 0 0, .slice none 0 0, .slice none 0 0, .slice none 0 0, .slice none 0 0, .int .i64 0] 37 (0, 0))) := ⟨h5_⟩
      have GW297 : Aside0 (w.heap.size ≤ gb297) := ⟨h6_⟩
      have GE297 : Aside0 (w.heap.size ≤ gb297) := ⟨h7_⟩
      have NB278_297 : Aside0 (gb278 ≠ gb297) := ⟨h8_⟩
      have NB297_278 : Aside0 (gb297 ≠ gb278) := ⟨h9_⟩
      have NB279_297 : Aside0 (gb279 ≠ gb297) := ⟨h10_⟩
      have NB297_279 : Aside0 (gb297 ≠ gb279) := ⟨h11_⟩
      have NB280_297 : Aside0 (gb280 ≠ gb297) := ⟨h12_⟩
      have NB297_280 : Aside0 (gb297 ≠ gb280) := ⟨h13_⟩
      replace HB : Aside0 (Below w.heap.size w w32) := ⟨h14_⟩
      clear h0_ h1_ h2_ h3_ h4_ h5_ h6_ h7_ h8_ h9_ h10_ h11_ h12_ h13_ h14_
      have hHeld : w32.cell? ⟨gb278, 0, none⟩ = some (.int .i64 a0_0) ∧ w32.cell? ⟨gb278, 1, none⟩ = some (.int .i64 a0_1) ∧ w32.cell? ⟨gb278, 2, none⟩ = some (.slice A0_2 l0_2.length c0_2) ∧ w32.cell? ⟨gb279, 0, none⟩ = some (.slice A1_0 l1_0.length c1_0) ∧ w32.cell? ⟨gb279, 1, none⟩ = some (.slice A1_1 l1_1.length c1_1) := hS_
      refine norm_ (a' := ?_) ?_ ?_
      rotate_left
      ·simp only [putAll, Act.put, List.setIfInBounds_toArray, List.set_cons_zero, List.set_cons_succ]
       rfl
      refine one_ (i := 3) (N := some 19) (bt_ 10 383) rfl rfl (one_of HT_.out (by kernel_rfl)) (by decide) (fun K hK => ?_)
      refine goes_ Try.func44 (by kernel_rfl) rfl #[.agg #[.slice A1_0 l1_0.length c1_0, .slice A1_1 l1_1.length c1_1]] (by rfl) rfl rfl (by (try simp only [List.map_toArray, List.map_cons, List.map_nil]); first | done | rfl | (simp only [List.length_drop, List.length_take]; rfl)) ?_
      with_reducible refine (impl_copyClasses.calls _ _ l1_0 _ _ l1_1 t288 t291 _ ?side1 ?side2 ?side3 ?side4 A7.out).mono ?_
      (case side1 => exact cb_ HR1_0.out HB.out)
      (case side2 => exact HC1_0.out)
      (case side3 => exact cb_ HR1_1.out HB.out)
      (case side4 => exact HC1_1.out)
      rintro e w33 ⟨v289, v292, rfl, ho0, ho1, hb⟩
      refine ⟨_, rfl, ?_⟩
      have HO290 := Aside0.mk (Kd.R_lower (Kd.R_new' (Kd.R_new' ho0 (rl_ HO287.out)) (rl_ HO296.out)) (bz_ HB.out))
      have HO293 := Aside0.mk (Kd.R_lower (Kd.R_new' (Kd.R_new' ho1 (rl_ HO287.out)) (rl_ HO296.out)) (bz_ HB.out))
      replace HO287 := Aside0.mk (Kd.R_mono (Kd.R_told (Kd.R_told (Kd.R_old (ra_ HO287.out) hb) (Kd.R_base ho0)) (Kd.R_base ho1)) (fun _ h_ => h_.1))
      replace HO296 := Aside0.mk (Kd.R_mono (Kd.R_told (Kd.R_told (Kd.R_old (ra_ HO296.out) hb) (Kd.R_base ho0)) (Kd.R_base ho1)) (fun _ h_ => h_.1))
      replace BK278 := kb_ BK278 hb
      replace BK279 := kb_ BK279 hb
      replace BK280 := kb_ BK280 hb
      replace BK297 := kb_ BK297 hb
      replace HB := hs_ HB hb
      (try clear hb)
      (try clear hk)
      (try clear ho0)
      (try clear ho1)
      obtain ⟨Ao34, co34, eo34⟩ := Kd.R_slice HO296.out
      (first | subst eo34 | (injection eo34 with f1_ f2_ f3_; have f4_ := f1_.symm; have f5_ := f3_.symm; clear f1_ f2_ f3_; subst f4_; subst f5_))
      obtain ⟨Ao35, co35, eo35⟩ := Kd.R_slice HO293.out
      (first | subst eo35 | (injection eo35 with f1_ f2_ f3_; have f4_ := f1_.symm; have f5_ := f3_.symm; clear f1_ f2_ f3_; subst f4_; subst f5_))
      obtain ⟨Ao36, co36, eo36⟩ := Kd.R_slice HO290.out
      (first | subst eo36 | (injection eo36 with f1_ f2_ f3_; have f4_ := f1_.symm; have f5_ := f3_.symm; clear f1_ f2_ f3_; subst f4_; subst f5_))
      obtain ⟨Ao37, co37, eo37⟩ := Kd.R_slice HO287.out
      (first | subst eo37 | (injection eo37 with f1_ f2_ f3_; have f4_ := f1_.symm; have f5_ := f3_.symm; clear f1_ f2_ f3_; subst f4_; subst f5_))
      refine hK.out _ _ ⟨(blk_cell BK278.out 0).trans rfl, (blk_cell BK278.out 1).trans rfl, (blk_cell BK278.out 2).trans rfl, (blk_cell BK279.out 0).trans rfl, (blk_cell BK279.out 1).trans rfl⟩ (fun hHeld => ?_)
      clear hK K
      refine norm_ (a' := ?_) ?_ ?_
      rotate_left
      ·show Act.put _ (some 19) _ = _
       simp only [Act.put, List.setIfInBounds_toArray, List.set_cons_zero, List.set_cons_succ, i64_w, i32_w]
       rfl
      refine pu_ 7 23 (bt_ 10 511) HT_ ?_
      exact norm_ (by simp only [putAll, Act.put, List.setIfInBounds_toArray, List.set_cons_zero, List.set_cons_succ]; first | done | rfl) (hJ1_3_6_8 (.slice Ao37 t285.length co37, .slice Ao36 t288.length co36, .slice Ao35 t291.length co35, .slice Ao34 y294.length co34, gb297) _ ⟨hHeld, (by (with_reducible repeat (first | apply Kd.R_alloc | apply Kd.R_drewN | apply Kd.R_drew)); exact Kd.R_mono HO287.out (fun _ hk => ⟨hk.1.2, ⟨hk.2, hk.1.1⟩⟩)), (by (with_reducible repeat (first | apply Kd.R_alloc | apply Kd.R_drewN | apply Kd.R_drew)); exact Kd.R_mono HO290.out (fun _ hk => ⟨hk.1.2, ⟨hk.1.1, hk.2⟩⟩)), (by (with_reducible repeat (first | apply Kd.R_alloc | apply Kd.R_drewN | apply Kd.R_drew)); exact Kd.R_mono HO293.out (fun _ hk => ⟨hk.1.2, ⟨hk.1.1, hk.2⟩⟩)), (by (with_reducible repeat (first | apply Kd.R_alloc | apply Kd.R_drewN | apply Kd.R_drew)); exact Kd.R_mono HO296.out (fun _ hk => ⟨hk.1.1, ⟨hk.1.2, hk.2⟩⟩)), bq_ BK278.out, bq_ BK279.out, bq_ BK280.out, bq_ BK297.out, GW297.out, GE297.out, NB278_297.out, NB297_278.out, NB279_297.out, NB297_279.out, NB280_297.out, NB297_280.out, (by repeat (first | (with_reducible first | exact HB.out | apply below_alloc | apply pw_below_drewN | apply below_drew1 | refine below_set ?_ GW278.out | refine below_set ?_ GW279.out | refine below_set ?_ GW280.out | refine below_set ?_ GE297.out) | exact HB.out))⟩)
    ·skip
     rintro ⟨v286, v289, v292, gb297⟩ w31 ⟨hS_, h0_, h1_, h2_, h3_, h4_, h5_, h6_, h7_, h8_, h9_, h10_, h11_, h12_, h13_, h14_, h15_⟩
     have HO287 : Aside0 (Kd.R (Kd.int .i64) 3 w31 w.heap.size (fun k_ => some k_ ≠ (v289 : Value).ownBlock ∧ some k_ ≠ (v292 : Value).ownBlock) v286 t285) := ⟨h0_⟩
     have HO290 : Aside0 (Kd.R (Kd.int .i64) 3 w31 w.heap.size (fun k_ => some k_ ≠ (v286 : Value).ownBlock ∧ some k_ ≠ (v292 : Value).ownBlock) v289 t288) := ⟨h1_⟩
     have HO293 : Aside0 (Kd.R (Kd.int .i64) 3 w31 w.heap.size (fun k_ => some k_ ≠ (v286 : Value).ownBlock ∧ some k_ ≠ (v289 : Value).ownBlock) v292 t291) := ⟨h2_⟩
     replace BK278 : Aside0 (w31.heap[gb278]? = some (.cells #[.int .i64 a0_0, .int .i64 a0_1, .slice A0_2 l0_2.length c0_2] 28 (0, 0))) := ⟨h3_⟩
     replace BK279 : Aside0 (w31.heap[gb279]? = some (.cells #[.slice A1_0 l1_0.length c1_0, .slice A1_1 l1_1.length c1_1] 32 (0, 0))) := ⟨h4_⟩
     replace BK280 : Aside0 (w31.heap[gb280]? = some (.cells #[.int .i64 0, .int .i64 0, .slice none 0 0, .slice none 0 0, .slice none 0 0, .slice none 0 0, .slice none 0 0, .slice none 0 0, .slice none 0 0, .slice none 0 0, .int .i64 0] 37 (0, 0))) := ⟨h5_⟩
     have BK297 : Aside0 (w31.heap[gb297]? = some (.cells #[.int .i64 0, .int .i64 0, .slice none 0 0, .slice none 0 0, .slice none 0 0, .slice none 0 0, .slice none 0 0, .slice none 0 0, .slice none 0 0, .slice none 0 0, .int .i64 0] 37 (0, 0))) := ⟨h6_⟩
     have GW297 : Aside0 (w.heap.size ≤ gb297) := ⟨h7_⟩
     have GE297 : Aside0 (w.heap.size ≤ gb297) := ⟨h8_⟩
     have NB278_297 : Aside0 (gb278 ≠ gb297) := ⟨h9_⟩
     have NB297_278 : Aside0 (gb297 ≠ gb278) := ⟨h10_⟩
     have NB279_297 : Aside0 (gb279 ≠ gb297) := ⟨h11_⟩
     have NB297_279 : Aside0 (gb297 ≠ gb279) := ⟨h12_⟩
     have NB280_297 : Aside0 (gb280 ≠ gb297) := ⟨h13_⟩
     have NB297_280 : Aside0 (gb297 ≠ gb280) := ⟨h14_⟩
     replace HB : Aside0 (Below w.heap.size w w31) := ⟨h15_⟩
     clear h0_ h1_ h2_ h3_ h4_ h5_ h6_ h7_ h8_ h9_ h10_ h11_ h12_ h13_ h14_ h15_
     have hHeld : w31.cell? ⟨gb278, 0, none⟩ = some (.int .i64 a0_0) ∧ w31.cell? ⟨gb278, 1, none⟩ = some (.int .i64 a0_1) ∧ w31.cell? ⟨gb278, 2, none⟩ = some (.slice A0_2 l0_2.length c0_2) ∧ w31.cell? ⟨gb279, 0, none⟩ = some (.slice A1_0 l1_0.length c1_0) ∧ w31.cell? ⟨gb279, 1, none⟩ = some (.slice A1_1 l1_1.length c1_1) := hS_
     refine norm_ (a' := ?_) ?_ ?_
     rotate_left
     ·simp only [putAll, Act.put, List.setIfInBounds_toArray, List.set_cons_zero, List.set_cons_succ]
      rfl
     refine one_ (i := 6) (N := some 22) (bt_ 10 383) rfl rfl (one_of HT_.out (by kernel_rfl)) (by decide) (fun K hK => ?_)
     refine Kd.R_make_step (Kd.int .i64) _ 3 (by rfl) (N := 22) rfl 26 _ _ rfl ji8 rfl rfl Try.underlying26 (.int .i64 0) 8 info3 rfl (by decide) (by omega) 0 (ok := fun _ => True) (okp := fun _ => True) rfl (fun _ hk => hk) trivial (of_decide_eq_true dg_) (Nat.le_trans (Nat.mul_le_mul_right _ (of_decide_eq_true dg_ : ji8.toNat ≤ 35184372088832)) (by omega)) (Below.refl _ _) (Nat.le_refl _) ?_
     intro v295 w32 ho33 hb hg_ hnew_
     clear hg_ hnew_
     (first | rw [← Ny294.out] at ho33 | (simp only [Int.reduceToNat] at ho33; rw [← Ny294.out] at ho33))
     have n0_ := Aside0.mk (Kd.R_elder' (ra_ HO287.out) (Kd.R_base ho33) hb)
     have n1_ := Aside0.mk (Kd.R_elder' (ra_ HO290.out) (Kd.R_base ho33) hb)
     have n2_ := Aside0.mk (Kd.R_elder' (ra_ HO293.out) (Kd.R_base ho33) hb)
     have n3_ := Aside0.mk (Kd.R_lower (Kd.R_new' (Kd.R_new' (Kd.R_new' ho33 (rl_ HO287.out)) (rl_ HO290.out)) (rl_ HO293.out)) (bz_ HB.out))
     have n4_ := Aside0.mk (bk_ BK278.out hb)
     have n5_ := Aside0.mk (bk_ BK279.out hb)
     have n6_ := Aside0.mk (bk_ BK280.out hb)
     have n7_ := Aside0.mk (bk_ BK297.out hb)
     have n8_ := Aside0.mk (bs_ HB.out hb)
     clear HO287 HO290 HO293 BK278 BK279 BK280 BK297 HB
     have HO287 := n0_
     have HO290 := n1_
     have HO293 := n2_
     have HO296 := n3_
     have BK278 := n4_
     have BK279 := n5_
     have BK280 := n6_
     have BK297 := n7_
     have HB := n8_
     clear n0_ n1_ n2_ n3_ n4_ n5_ n6_ n7_ n8_ hb ho33
     obtain ⟨Ao34, co34, eo34⟩ := Kd.R_slice HO296.out
     (first | subst eo34 | (injection eo34 with f1_ f2_ f3_; have f4_ := f1_.symm; have f5_ := f3_.symm; clear f1_ f2_ f3_; subst f4_; subst f5_))
     obtain ⟨Ao35, co35, eo35⟩ := Kd.R_slice HO293.out
     (first | subst eo35 | (injection eo35 with f1_ f2_ f3_; have f4_ := f1_.symm; have f5_ := f3_.symm; clear f1_ f2_ f3_; subst f4_; subst f5_))
     obtain ⟨Ao36, co36, eo36⟩ := Kd.R_slice HO290.out
     (first | subst eo36 | (injection eo36 with f1_ f2_ f3_; have f4_ := f1_.symm; have f5_ := f3_.symm; clear f1_ f2_ f3_; subst f4_; subst f5_))
     obtain ⟨Ao37, co37, eo37⟩ := Kd.R_slice HO287.out
     (first | subst eo37 | (injection eo37 with f1_ f2_ f3_; have f4_ := f1_.symm; have f5_ := f3_.symm; clear f1_ f2_ f3_; subst f4_; subst f5_))
     refine hK.out _ _ ⟨(blk_cell BK278.out 0).trans rfl, (blk_cell BK278.out 1).trans rfl, (blk_cell BK278.out 2).trans rfl, (blk_cell BK279.out 0).trans rfl, (blk_cell BK279.out 1).trans rfl⟩ (fun hHeld => ?_)
     clear hK K
     refine norm_ (a' := ?_) ?_ ?_
     rotate_left
     ·show Act.put _ (some 22) _ = _
      simp only [Act.put, List.setIfInBounds_toArray, List.set_cons_zero, List.set_cons_succ, i64_w, i32_w]
      rfl
     refine pu_ 7 23 (bt_ 10 511) HT_ ?_
     exact norm_ (by simp only [putAll, Act.put, List.setIfInBounds_toArray, List.set_cons_zero, List.set_cons_succ]; first | done | rfl) (hJ1_3_6_8 (.slice Ao37 t285.length co37, .slice Ao36 t288.length co36, .slice Ao35 t291.length co35, .slice Ao34 y294.length co34, gb297) _ ⟨hHeld, (by (with_reducible repeat (first | apply Kd.R_alloc | apply Kd.R_drewN | apply Kd.R_drew)); exact Kd.R_mono HO287.out (fun _ hk => ⟨hk.1.1, ⟨hk.1.2, hk.2⟩⟩)), (by (with_reducible repeat (first | apply Kd.R_alloc | apply Kd.R_drewN | apply Kd.R_drew)); exact Kd.R_mono HO290.out (fun _ hk => ⟨hk.1.1, ⟨hk.1.2, hk.2⟩⟩)), (by (with_reducible repeat (first | apply Kd.R_alloc | apply Kd.R_drewN | apply Kd.R_drew)); exact Kd.R_mono HO293.out (fun _ hk => ⟨hk.1.1, ⟨hk.1.2, hk.2⟩⟩)), (by (with_reducible repeat (first | apply Kd.R_alloc | apply Kd.R_drewN | apply Kd.R_drew)); exact Kd.R_mono HO296.out (fun _ hk => ⟨hk.1.1.2, ⟨hk.1.2, hk.2⟩⟩)), bq_ BK278.out, bq_ BK279.out, bq_ BK280.out, bq_ BK297.out, GW297.out, GE297.out, NB278_297.out, NB297_278.out, NB279_297.out, NB297_279.out, NB280_297.out, NB297_280.out, (by repeat (first | (with_reducible first | exact HB.out | apply below_alloc | apply pw_below_drewN | apply below_drew1 | refine below_set ?_ GW278.out | refine below_set ?_ GW279.out | refine below_set ?_ GW280.out | refine below_set ?_ GE297.out) | exact HB.out))⟩)
   ·skip
    rintro ⟨v286, v289, v292, v295⟩ w36 ⟨hS_, h0_, h1_, h2_, h3_, h4_, h5_, h6_, h7_⟩
    have HO287 : Aside0 (Kd.R (Kd.int .i64) 3 w36 w.heap.size (fun k_ => some k_ ≠ (v289 : Value).ownBlock ∧ some k_ ≠ (v292 : Value).ownBlock ∧ some k_ ≠ (v295 : Value).ownBlock) v286 t285) := ⟨h0_⟩
    have HO290 : Aside0 (Kd.R (Kd.int .i64) 3 w36 w.heap.size (fun k_ => some k_ ≠ (v286 : Value).ownBlock ∧ some k_ ≠ (v292 : Value).ownBlock ∧ some k_ ≠ (v295 : Value).ownBlock) v289 t288) := ⟨h1_⟩
    have HO293 : Aside0 (Kd.R (Kd.int .i64) 3 w36 w.heap.size (fun k_ => some k_ ≠ (v286 : Value).ownBlock ∧ some k_ ≠ (v289 : Value).ownBlock ∧ some k_ ≠ (v295 : Value).ownBlock) v292 t291) := ⟨h2_⟩
    have HO296 : Aside0 (Kd.R (Kd.int .i64) 3 w36 w.heap.size (fun k_ => some k_ ≠ (v286 : Value).ownBlock ∧ some k_ ≠ (v289 : Value).ownBlock ∧ some k_ ≠ (v292 : Value).ownBlock) v295 y294) := ⟨h3_⟩
    replace BK278 : Aside0 (w36.heap[gb278]? = some (.cells #[.int .i64 a0_0, .int .i64 a0_1, .slice A0_2 l0_2.length c0_2] 28 (0, 0))) := ⟨h4_⟩
    replace BK279 : Aside0 (w36.heap[gb279]? = some (.cells #[.slice A1_0 l1_0.length c1_0, .slice A1_1 l1_1.length c1_1] 32 (0, 0))) := ⟨h5_⟩
    replace BK280 : Aside0 (w36.heap[gb280]? = some (.cells #[.int .i64 0, .int .i64 0, .slice none 0 0, .slice none 0 0, .slice none 0 0, .slice none 0 0, .slice none 0 0, .slice none 0 0, .slice none 0 0, .slice none 0 0, .int .i64 0] 37 (0, 0))) := ⟨h6_⟩
    replace HB : Aside0 (Below w.heap.size w w36) := ⟨h7_⟩
    clear h0_ h1_ h2_ h3_ h4_ h5_ h6_ h7_
    have hHeld : w36.cell? ⟨gb278, 0, none⟩ = some (.int .i64 a0_0) ∧ w36.cell? ⟨gb278, 1, none⟩ = some (.int .i64 a0_1) ∧ w36.cell? ⟨gb278, 2, none⟩ = some (.slice A0_2 l0_2.length c0_2) ∧ w36.cell? ⟨gb279, 0, none⟩ = some (.slice A1_0 l1_0.length c1_0) ∧ w36.cell? ⟨gb279, 1, none⟩ = some (.slice A1_1 l1_1.length c1_1) := hS_
    obtain ⟨Ao37, co37, eo37⟩ := Kd.R_slice HO296.out
    (first | subst eo37 | (injection eo37 with f1_ f2_ f3_; have f4_ := f1_.symm; have f5_ := f3_.symm; clear f1_ f2_ f3_; subst f4_; subst f5_))
    obtain ⟨Ao38, co38, eo38⟩ := Kd.R_slice HO293.out
    (first | subst eo38 | (injection eo38 with f1_ f2_ f3_; have f4_ := f1_.symm; have f5_ := f3_.symm; clear f1_ f2_ f3_; subst f4_; subst f5_))
    obtain ⟨Ao39, co39, eo39⟩ := Kd.R_slice HO290.out
    (first | subst eo39 | (injection eo39 with f1_ f2_ f3_; have f4_ := f1_.symm; have f5_ := f3_.symm; clear f1_ f2_ f3_; subst f4_; subst f5_))
    obtain ⟨Ao40, co40, eo40⟩ := Kd.R_slice HO287.out
    (first | subst eo40 | (injection eo40 with f1_ f2_ f3_; have f4_ := f1_.symm; have f5_ := f3_.symm; clear f1_ f2_ f3_; subst f4_; subst f5_))
    refine norm_ (a' := ?_) ?_ ?_
    rotate_left
    ·simp only [putAll, Act.put, List.setIfInBounds_toArray, List.set_cons_zero, List.set_cons_succ]
     rfl
    refine one_ (i := 8) (N := some 7) (bt_ 10 511) rfl rfl (one_of HT_.out (by kernel_rfl)) (by decide) (fun K hK => ?_)
    refine box_step ?hg (N := 7) ?hd (cs := #[.int .i64 0, .int .i64 0, .slice none 0 0, .slice none 0 0, .slice none 0 0, .slice none 0 0, .slice none 0 0, .slice none 0 0, .slice none 0 0, .slice none 0 0, .int .i64 0]) (t := 37) ?hr ?_; (case hd => rfl); (case hg => rfl); (case hr => first | (go_simp; done) | (go_simp; rfl))
    intro gb297 hg w41 hbox hb
    have n0_ := Aside0.mk (Kd.R_below (ra_ HO287.out) hb)
    have n1_ := Aside0.mk (Kd.R_below (ra_ HO290.out) hb)
    have n2_ := Aside0.mk (Kd.R_below (ra_ HO293.out) hb)
    have n3_ := Aside0.mk (Kd.R_below (ra_ HO296.out) hb)
    have n4_ := Aside0.mk (bk_ BK278.out hb)
    have n5_ := Aside0.mk (bk_ BK279.out hb)
    have n6_ := Aside0.mk (bk_ BK280.out hb)
    have n7_ := Aside0.mk (bs_ HB.out hb)
    have n8_ := Aside0.mk (hbox)
    have n9_ := Aside0.mk ((by rw [hg]; exact (bz_ HB.out) : w.heap.size ≤ gb297))
    have n10_ := Aside0.mk ((by rw [hg]; exact (bz_ HB.out) : w.heap.size ≤ gb297))
    have n11_ := Aside0.mk ((by rw [hg]; exact Nat.ne_of_lt (bl_ BK278.out) : gb278 ≠ gb297))
    have n12_ := Aside0.mk ((by rw [hg]; exact Nat.ne_of_gt (bl_ BK278.out) : gb297 ≠ gb278))
    have n13_ := Aside0.mk ((by rw [hg]; exact Nat.ne_of_lt (bl_ BK279.out) : gb279 ≠ gb297))
    have n14_ := Aside0.mk ((by rw [hg]; exact Nat.ne_of_gt (bl_ BK279.out) : gb297 ≠ gb279))
    have n15_ := Aside0.mk ((by rw [hg]; exact Nat.ne_of_lt (bl_ BK280.out) : gb280 ≠ gb297))
    have n16_ := Aside0.mk ((by rw [hg]; exact Nat.ne_of_gt (bl_ BK280.out) : gb297 ≠ gb280))
    clear HO287 HO290 HO293 HO296 BK278 BK279 BK280 HB
    have HO287 := n0_
    have HO290 := n1_
    have HO293 := n2_
    have HO296 := n3_
    have BK278 := n4_
    have BK279 := n5_
    have BK280 := n6_
    have HB := n7_
    have BK297 := n8_
    have GW297 := n9_
    have GE297 := n10_
    have NB278_297 := n11_
    have NB297_278 := n12_
    have NB279_297 := n13_
    have NB297_279 := n14_
    have NB280_297 := n15_
    have NB297_280 := n16_
    clear n0_ n1_ n2_ n3_ n4_ n5_ n6_ n7_ n8_ n9_ n10_ n11_ n12_ n13_ n14_ n15_ n16_ hb hbox hg
    refine hK.out _ _ ⟨(blk_cell BK278.out 0).trans rfl, (blk_cell BK278.out 1).trans rfl, (blk_cell BK278.out 2).trans rfl, (blk_cell BK279.out 0).trans rfl, (blk_cell BK279.out 1).trans rfl⟩ (fun hHeld => ?_)
    clear hK K
    refine norm_ (a' := ?_) ?_ ?_
    rotate_left
    ·show Act.put _ (some 7) _ = _
     simp only [Act.put, List.setIfInBounds_toArray, List.set_cons_zero, List.set_cons_succ, i64_w, i32_w]
     rfl
    exact norm_ (by simp only [putAll, Act.put, List.setIfInBounds_toArray, List.set_cons_zero, List.set_cons_succ]; first | done | rfl) (hJ1_3_6_8 (.slice Ao40 t285.length co40, .slice Ao39 t288.length co39, .slice Ao38 t291.length co38, .slice Ao37 y294.length co37, gb297) _ ⟨hHeld, (ra_ HO287.out), (ra_ HO290.out), (ra_ HO293.out), (ra_ HO296.out), bq_ BK278.out, bq_ BK279.out, bq_ BK280.out, bq_ BK297.out, GW297.out, GE297.out, NB278_297.out, NB297_278.out, NB279_297.out, NB297_279.out, NB280_297.out, NB297_280.out, (by repeat (first | (with_reducible first | exact HB.out | apply below_alloc | apply pw_below_drewN | apply below_drew1 | refine below_set ?_ GW278.out | refine below_set ?_ GW279.out | refine below_set ?_ GW280.out | refine below_set ?_ GE297.out) | exact HB.out))⟩)
  rintro ⟨v286, v289, v292, v295, gb297⟩ w37 ⟨hS_, h0_, h1_, h2_, h3_, h4_, h5_, h6_, h7_, h8_, h9_, h10_, h11_, h12_, h13_, h14_, h15_, h16_⟩
  have HO287 : Aside0 (Kd.R (Kd.int .i64) 3 w37 w.heap.size (fun k_ => some k_ ≠ (v289 : Value).ownBlock ∧ some k_ ≠ (v292 : Value).ownBlock ∧ some k_ ≠ (v295 : Value).ownBlock) v286 t285) := ⟨h0_⟩
  have HO290 : Aside0 (Kd.R (Kd.int .i64) 3 w37 w.heap.size (fun k_ => some k_ ≠ (v286 : Value).ownBlock ∧ some k_ ≠ (v292 : Value).ownBlock ∧ some k_ ≠ (v295 : Value).ownBlock) v289 t288) := ⟨h1_⟩
  have HO293 : Aside0 (Kd.R (Kd.int .i64) 3 w37 w.heap.size (fun k_ => some k_ ≠ (v286 : Value).ownBlock ∧ some k_ ≠ (v289 : Value).ownBlock ∧ some k_ ≠ (v295 : Value).ownBlock) v292 t291) := ⟨h2_⟩
  have HO296 : Aside0 (Kd.R (Kd.int .i64) 3 w37 w.heap.size (fun k_ => some k_ ≠ (v286 : Value).ownBlock ∧ some k_ ≠ (v289 : Value).ownBlock ∧ some k_ ≠ (v292 : Value).ownBlock) v295 y294) := ⟨h3_⟩
  replace BK278 : Aside0 (w37.heap[gb278]? = some (.cells #[.int .i64 a0_0, .int .i64 a0_1, .slice A0_2 l0_2.length c0_2] 28 (0, 0))) := ⟨h4_⟩
  replace BK279 : Aside0 (w37.heap[gb279]? = some (.cells #[.slice A1_0 l1_0.length c1_0, .slice A1_1 l1_1.length c1_1] 32 (0, 0))) := ⟨h5_⟩
  replace BK280 : Aside0 (w37.heap[gb280]? = some (.cells #[.int .i64 0, .int .i64 0, .slice none 0 0, .slice none 0 0, .slice none 0 0, .slice none 0 0, .slice none 0 0, .slice none 0 0, .slice none 0 0, .slice none 0 0, .int .i64 0] 37 (0, 0))) := ⟨h6_⟩
  have BK297 : Aside0 (w37.heap[gb297]? = some (.cells #[.int .i64 0, .int .i64 0, .slice none 0 0, .slice none 0 0, .slice none 0 0, .slice none 0 0, .slice none 0 0, .slice none 0 0, .slice none 0 0, .slice none 0 0, .int .i64 0] 37 (0, 0))) := ⟨h7_⟩
  have GW297 : Aside0 (w.heap.size ≤ gb297) := ⟨h8_⟩
  have GE297 : Aside0 (w.heap.size ≤ gb297) := ⟨h9_⟩
  have NB278_297 : Aside0 (gb278 ≠ gb297) := ⟨h10_⟩
  have NB297_278 : Aside0 (gb297 ≠ gb278) := ⟨h11_⟩
  have NB279_297 : Aside0 (gb279 ≠ gb297) := ⟨h12_⟩
  have NB297_279 : Aside0 (gb297 ≠ gb279) := ⟨h13_⟩
  have NB280_297 : Aside0 (gb280 ≠ gb297) := ⟨h14_⟩
  have NB297_280 : Aside0 (gb297 ≠ gb280) := ⟨h15_⟩
  replace HB : Aside0 (Below w.heap.size w w37) := ⟨h16_⟩
  clear h0_ h1_ h2_ h3_ h4_ h5_ h6_ h7_ h8_ h9_ h10_ h11_ h12_ h13_ h14_ h15_ h16_
  have hHeld : w37.cell? ⟨gb278, 0, none⟩ = some (.int .i64 a0_0) ∧ w37.cell? ⟨gb278, 1, none⟩ = some (.int .i64 a0_1) ∧ w37.cell? ⟨gb278, 2, none⟩ = some (.slice A0_2 l0_2.length c0_2) ∧ w37.cell? ⟨gb279, 0, none⟩ = some (.slice A1_0 l1_0.length c1_0) ∧ w37.cell? ⟨gb279, 1, none⟩ = some (.slice A1_1 l1_1.length c1_1) := hS_
  obtain ⟨Ao38, co38, eo38⟩ := Kd.R_slice HO296.out
  (first | subst eo38 | (injection eo38 with f1_ f2_ f3_; have f4_ := f1_.symm; have f5_ := f3_.symm; clear f1_ f2_ f3_; subst f4_; subst f5_))
  obtain ⟨Ao39, co39, eo39⟩ := Kd.R_slice HO293.out
  (first | subst eo39 | (injection eo39 with f1_ f2_ f3_; have f4_ := f1_.symm; have f5_ := f3_.symm; clear f1_ f2_ f3_; subst f4_; subst f5_))
  obtain ⟨Ao40, co40, eo40⟩ := Kd.R_slice HO290.out
  (first | subst eo40 | (injection eo40 with f1_ f2_ f3_; have f4_ := f1_.symm; have f5_ := f3_.symm; clear f1_ f2_ f3_; subst f4_; subst f5_))
  obtain ⟨Ao41, co41, eo41⟩ := Kd.R_slice HO287.out
  (first | subst eo41 | (injection eo41 with f1_ f2_ f3_; have f4_ := f1_.symm; have f5_ := f3_.symm; clear f1_ f2_ f3_; subst f4_; subst f5_))
  refine norm_ (a' := ?_) ?_ ?_
  rotate_left
  ·simp only [putAll, Act.put, List.setIfInBounds_toArray, List.set_cons_zero, List.set_cons_succ]
   rfl
  refine one_ (i := 9) (N := none) (bt_ 10 1023) rfl rfl (one_of HT_.out (by kernel_rfl)) (by decide) (fun K hK => ?_)
  have hs42 : w37.cell? ⟨gb297, 0, none⟩ = some (.int .i64 0) := (blk_cell BK297.out 0).trans rfl
  have hfs42 := blk_frozen BK297.out 0
  have hns42_0 := NB278_297.out
  have hns42_1 := NB279_297.out
  have hns42_2 := NB280_297.out
  have hms42_0 := NB297_278.out
  have hms42_1 := NB297_279.out
  have hms42_2 := NB297_280.out
  have hs43 : w37.cell? ⟨gb297, 1, none⟩ = some (.int .i64 0) := (blk_cell BK297.out 1).trans rfl
  have hfs43 := blk_frozen BK297.out 1
  have hns43_0 := NB278_297.out
  have hns43_1 := NB279_297.out
  have hns43_2 := NB280_297.out
  have hms43_0 := NB297_278.out
  have hms43_1 := NB297_279.out
  have hms43_2 := NB297_280.out
  have hs44 : w37.cell? ⟨gb297, 2, none⟩ = some (.slice none 0 0) := (blk_cell BK297.out 2).trans rfl
  have hfs44 := blk_frozen BK297.out 2
  have hns44_0 := NB278_297.out
  have hns44_1 := NB279_297.out
  have hns44_2 := NB280_297.out
  have hms44_0 := NB297_278.out
  have hms44_1 := NB297_279.out
  have hms44_2 := NB297_280.out
  have hs45 : w37.cell? ⟨gb297, 3, none⟩ = some (.slice none 0 0) := (blk_cell BK297.out 3).trans rfl
  have hfs45 := blk_frozen BK297.out 3
  have hns45_0 := NB278_297.out
  have hns45_1 := NB279_297.out
  have hns45_2 := NB280_297.out
  have hms45_0 := NB297_278.out
  have hms45_1 := NB297_279.out
  have hms45_2 := NB297_280.out
  have hs46 : w37.cell? ⟨gb297, 4, none⟩ = some (.slice none 0 0) := (blk_cell BK297.out 4).trans rfl
  have hfs46 := blk_frozen BK297.out 4
  have hns46_0 := NB278_297.out
  have hns46_1 := NB279_297.out
  have hns46_2 := NB280_297.out
  have hms46_0 := NB297_278.out
  have hms46_1 := NB297_279.out
  have hms46_2 := NB297_280.out
  have hs47 : w37.cell? ⟨gb297, 5, none⟩ = some (.slice none 0 0) := (blk_cell BK297.out 5).trans rfl
  have hfs47 := blk_frozen BK297.out 5
  have hns47_0 := NB278_297.out
  have hns47_1 := NB279_297.out
  have hns47_2 := NB280_297.out
  have hms47_0 := NB297_278.out
  have hms47_1 := NB297_279.out
  have hms47_2 := NB297_280.out
  have hs48 : w37.cell? ⟨gb297, 6, none⟩ = some (.slice none 0 0) := (blk_cell BK297.out 6).trans rfl
  have hfs48 := blk_frozen BK297.out 6
  have hns48_0 := NB278_297.out
  have hns48_1 := NB279_297.out
  have hns48_2 := NB280_297.out
  have hms48_0 := NB297_278.out
  have hms48_1 := NB297_279.out
  have hms48_2 := NB297_280.out
  have hs49 : w37.cell? ⟨gb297, 7, none⟩ = some (.slice none 0 0) := (blk_cell BK297.out 7).trans rfl
  have hfs49 := blk_frozen BK297.out 7
  have hns49_0 := NB278_297.out
  have hns49_1 := NB279_297.out
  have hns49_2 := NB280_297.out
  have hms49_0 := NB297_278.out
  have hms49_1 := NB297_279.out
  have hms49_2 := NB297_280.out
  have hs50 : w37.cell? ⟨gb297, 8, none⟩ = some (.slice none 0 0) := (blk_cell BK297.out 8).trans rfl
  have hfs50 := blk_frozen BK297.out 8
  have hns50_0 := NB278_297.out
  have hns50_1 := NB279_297.out
  have hns50_2 := NB280_297.out
  have hms50_0 := NB297_278.out
  have hms50_1 := NB297_279.out
  have hms50_2 := NB297_280.out
  have hs51 : w37.cell? ⟨gb297, 9, none⟩ = some (.slice none 0 0) := (blk_cell BK297.out 9).trans rfl
  have hfs51 := blk_frozen BK297.out 9
  have hns51_0 := NB278_297.out
  have hns51_1 := NB279_297.out
  have hns51_2 := NB280_297.out
  have hms51_0 := NB297_278.out
  have hms51_1 := NB297_279.out
  have hms51_2 := NB297_280.out
  have hs52 : w37.cell? ⟨gb297, 10, none⟩ = some (.int .i64 0) := (blk_cell BK297.out 10).trans rfl
  have hfs52 := blk_frozen BK297.out 10
  have hns52_0 := NB278_297.out
  have hns52_1 := NB279_297.out
  have hns52_2 := NB280_297.out
  have hms52_0 := NB297_278.out
  have hms52_1 := NB297_279.out
  have hms52_2 := NB297_280.out
  refine skip_ (w1 := ?_) (by rfl) rfl ?_ ?_
  rotate_left
  ·go_simp
   rfl
  refine hK.out _ _ ⟨((cell_far (p := ⟨gb297, _, none⟩) NB278_297.out _).trans (((cell_far (p := ⟨gb297, _, none⟩) NB278_297.out _).trans (((cell_far (p := ⟨gb297, _, none⟩) NB278_297.out _).trans (((cell_far (p := ⟨gb297, _, none⟩) NB278_297.out _).trans (((cell_far (p := ⟨gb297, _, none⟩) NB278_297.out _).trans (((cell_far (p := ⟨gb297, _, none⟩) NB278_297.out _).trans (((cell_far (p := ⟨gb297, _, none⟩) NB278_297.out _).trans (((cell_far (p := ⟨gb297, _, none⟩) NB278_297.out _).trans (((cell_far (p := ⟨gb297, _, none⟩) NB278_297.out _).trans (((cell_far (p := ⟨gb297, _, none⟩) NB278_297.out _).trans (((cell_far (p := ⟨gb297, _, none⟩) NB278_297.out _).trans (hHeld.1)))))))))))))))))))))), ((cell_far (p := ⟨gb297, _, none⟩) NB278_297.out _).trans (((cell_far (p := ⟨gb297, _, none⟩) NB278_297.out _).trans (((cell_far (p := ⟨gb297, _, none⟩) NB278_297.out _).trans (((cell_far (p := ⟨gb297, _, none⟩) NB278_297.out _).trans (((cell_far (p := ⟨gb297, _, none⟩) NB278_297.out _).trans (((cell_far (p := ⟨gb297, _, none⟩) NB278_297.out _).trans (((cell_far (p := ⟨gb297, _, none⟩) NB278_297.out _).trans (((cell_far (p := ⟨gb297, _, none⟩) NB278_297.out _).trans (((cell_far (p := ⟨gb297, _, none⟩) NB278_297.out _).trans (((cell_far (p := ⟨gb297, _, none⟩) NB278_297.out _).trans (((cell_far (p := ⟨gb297, _, none⟩) NB278_297.out _).trans (hHeld.2.1)))))))))))))))))))))), ((cell_far (p := ⟨gb297, _, none⟩) NB278_297.out _).trans (((cell_far (p := ⟨gb297, _, none⟩) NB278_297.out _).trans (((cell_far (p := ⟨gb297, _, none⟩) NB278_297.out _).trans (((cell_far (p := ⟨gb297, _, none⟩) NB278_297.out _).trans (((cell_far (p := ⟨gb297, _, none⟩) NB278_297.out _).trans (((cell_far (p := ⟨gb297, _, none⟩) NB278_297.out _).trans (((cell_far (p := ⟨gb297, _, none⟩) NB278_297.out _).trans (((cell_far (p := ⟨gb297, _, none⟩) NB278_297.out _).trans (((cell_far (p := ⟨gb297, _, none⟩) NB278_297.out _).trans (((cell_far (p := ⟨gb297, _, none⟩) NB278_297.out _).trans (((cell_far (p := ⟨gb297, _, none⟩) NB278_297.out _).trans (hHeld.2.2.1)))))))))))))))))))))), ((cell_far (p := ⟨gb297, _, none⟩) NB279_297.out _).trans (((cell_far (p := ⟨gb297, _, none⟩) NB279_297.out _).trans (((cell_far (p := ⟨gb297, _, none⟩) NB279_297.out _).trans (((cell_far (p := ⟨gb297, _, none⟩) NB279_297.out _).trans (((cell_far (p := ⟨gb297, _, none⟩) NB279_297.out _).trans (((cell_far (p := ⟨gb297, _, none⟩) NB279_297.out _).trans (((cell_far (p := ⟨gb297, _, none⟩) NB279_297.out _).trans (((cell_far (p := ⟨gb297, _, none⟩) NB279_297.out _).trans (((cell_far (p := ⟨gb297, _, none⟩) NB279_297.out _).trans (((cell_far (p := ⟨gb297, _, none⟩) NB279_297.out _).trans (((cell_far (p := ⟨gb297, _, none⟩) NB279_297.out _).trans (hHeld.2.2.2.1)))))))))))))))))))))), ((cell_far (p := ⟨gb297, _, none⟩) NB279_297.out _).trans (((cell_far (p := ⟨gb297, _, none⟩) NB279_297.out _).trans (((cell_far (p := ⟨gb297, _, none⟩) NB279_297.out _).trans (((cell_far (p := ⟨gb297, _, none⟩) NB279_297.out _).trans (((cell_far (p := ⟨gb297, _, none⟩) NB279_297.out _).trans (((cell_far (p := ⟨gb297, _, none⟩) NB279_297.out _).trans (((cell_far (p := ⟨gb297, _, none⟩) NB279_297.out _).trans (((cell_far (p := ⟨gb297, _, none⟩) NB279_297.out _).trans (((cell_far (p := ⟨gb297, _, none⟩) NB279_297.out _).trans (((cell_far (p := ⟨gb297, _, none⟩) NB279_297.out _).trans (((cell_far (p := ⟨gb297, _, none⟩) NB279_297.out _).trans (hHeld.2.2.2.2))))))))))))))))))))))⟩ (fun hHeld => ?_)
  clear hK K
  refine done_ (done_of HT_.out (by kernel_rfl)) ?_
  try go_wp2
  have n0_ : Aside0 (Kd.R (Kd.int .i64) 3 (((((((((((w37.setCell ⟨gb297, 0, none⟩ (.int .i64 t283)).setCell ⟨gb297, 1, none⟩ (.int .i64 t284)).setCell ⟨gb297, 2, none⟩ (.slice Ao41 t285.length co41)).setCell ⟨gb297, 3, none⟩ (.slice Ao40 t288.length co40)).setCell ⟨gb297, 4, none⟩ (.slice Ao39 t291.length co39)).setCell ⟨gb297, 5, none⟩ (.slice none 0 0)).setCell ⟨gb297, 6, none⟩ (.slice none 0 0)).setCell ⟨gb297, 7, none⟩ (.slice Ao38 y294.length co38)).setCell ⟨gb297, 8, none⟩ (.slice none 0 0)).setCell ⟨gb297, 9, none⟩ (.slice none 0 0)).setCell ⟨gb297, 10, none⟩ (.int .i64 0)) w.heap.size (fun k_ => some k_ ≠ (.slice Ao40 t288.length co40 : Value).ownBlock ∧ some k_ ≠ (.slice Ao39 t291.length co39 : Value).ownBlock ∧ some k_ ≠ (.slice Ao38 y294.length co38 : Value).ownBlock) (.slice Ao41 t285.length co41) t285) := ⟨rm_ (Kd.R_types HO287.out BK297.out (by decide)) (fun _ hk => ⟨hk.1.1, ⟨hk.1.2.1, hk.1.2.2⟩⟩)⟩
  have n1_ : Aside0 (Kd.R (Kd.int .i64) 3 (((((((((((w37.setCell ⟨gb297, 0, none⟩ (.int .i64 t283)).setCell ⟨gb297, 1, none⟩ (.int .i64 t284)).setCell ⟨gb297, 2, none⟩ (.slice Ao41 t285.length co41)).setCell ⟨gb297, 3, none⟩ (.slice Ao40 t288.length co40)).setCell ⟨gb297, 4, none⟩ (.slice Ao39 t291.length co39)).setCell ⟨gb297, 5, none⟩ (.slice none 0 0)).setCell ⟨gb297, 6, none⟩ (.slice none 0 0)).setCell ⟨gb297, 7, none⟩ (.slice Ao38 y294.length co38)).setCell ⟨gb297, 8, none⟩ (.slice none 0 0)).setCell ⟨gb297, 9, none⟩ (.slice none 0 0)).setCell ⟨gb297, 10, none⟩ (.int .i64 0)) w.heap.size (fun k_ => some k_ ≠ (.slice Ao41 t285.length co41 : Value).ownBlock ∧ some k_ ≠ (.slice Ao39 t291.length co39 : Value).ownBlock ∧ some k_ ≠ (.slice Ao38 y294.length co38 : Value).ownBlock) (.slice Ao40 t288.length co40) t288) := ⟨rm_ (Kd.R_types HO290.out BK297.out (by decide)) (fun _ hk => ⟨hk.1.1, ⟨hk.1.2.1, hk.1.2.2⟩⟩)⟩
  have n2_ : Aside0 (Kd.R (Kd.int .i64) 3 (((((((((((w37.setCell ⟨gb297, 0, none⟩ (.int .i64 t283)).setCell ⟨gb297, 1, none⟩ (.int .i64 t284)).setCell ⟨gb297, 2, none⟩ (.slice Ao41 t285.length co41)).setCell ⟨gb297, 3, none⟩ (.slice Ao40 t288.length co40)).setCell ⟨gb297, 4, none⟩ (.slice Ao39 t291.length co39)).setCell ⟨gb297, 5, none⟩ (.slice none 0 0)).setCell ⟨gb297, 6, none⟩ (.slice none 0 0)).setCell ⟨gb297, 7, none⟩ (.slice Ao38 y294.length co38)).setCell ⟨gb297, 8, none⟩ (.slice none 0 0)).setCell ⟨gb297, 9, none⟩ (.slice none 0 0)).setCell ⟨gb297, 10, none⟩ (.int .i64 0)) w.heap.size (fun k_ => some k_ ≠ (.slice Ao41 t285.length co41 : Value).ownBlock ∧ some k_ ≠ (.slice Ao40 t288.length co40 : Value).ownBlock ∧ some k_ ≠ (.slice Ao38 y294.length co38 : Value).ownBlock) (.slice Ao39 t291.length co39) t291) := ⟨rm_ (Kd.R_types HO293.out BK297.out (by decide)) (fun _ hk => ⟨hk.1.1, ⟨hk.1.2.1, hk.1.2.2⟩⟩)⟩
  have n3_ : Aside0 (Kd.R (Kd.int .i64) 3 (((((((((((w37.setCell ⟨gb297, 0, none⟩ (.int .i64 t283)).setCell ⟨gb297, 1, none⟩ (.int .i64 t284)).setCell ⟨gb297, 2, none⟩ (.slice Ao41 t285.length co41)).setCell ⟨gb297, 3, none⟩ (.slice Ao40 t288.length co40)).setCell ⟨gb297, 4, none⟩ (.slice Ao39 t291.length co39)).setCell ⟨gb297, 5, none⟩ (.slice none 0 0)).setCell ⟨gb297, 6, none⟩ (.slice none 0 0)).setCell ⟨gb297, 7, none⟩ (.slice Ao38 y294.length co38)).setCell ⟨gb297, 8, none⟩ (.slice none 0 0)).setCell ⟨gb297, 9, none⟩ (.slice none 0 0)).setCell ⟨gb297, 10, none⟩ (.int .i64 0)) w.heap.size (fun k_ => some k_ ≠ (.slice Ao41 t285.length co41 : Value).ownBlock ∧ some k_ ≠ (.slice Ao40 t288.length co40 : Value).ownBlock ∧ some k_ ≠ (.slice Ao39 t291.length co39 : Value).ownBlock) (.slice Ao38 y294.length co38) y294) := ⟨rm_ (Kd.R_types HO296.out BK297.out (by decide)) (fun _ hk => ⟨hk.1.1, ⟨hk.1.2.1, hk.1.2.2⟩⟩)⟩
  have n4_ : Aside0 ((((((((((((w37.setCell ⟨gb297, 0, none⟩ (.int .i64 t283)).setCell ⟨gb297, 1, none⟩ (.int .i64 t284)).setCell ⟨gb297, 2, none⟩ (.slice Ao41 t285.length co41)).setCell ⟨gb297, 3, none⟩ (.slice Ao40 t288.length co40)).setCell ⟨gb297, 4, none⟩ (.slice Ao39 t291.length co39)).setCell ⟨gb297, 5, none⟩ (.slice none 0 0)).setCell ⟨gb297, 6, none⟩ (.slice none 0 0)).setCell ⟨gb297, 7, none⟩ (.slice Ao38 y294.length co38)).setCell ⟨gb297, 8, none⟩ (.slice none 0 0)).setCell ⟨gb297, 9, none⟩ (.slice none 0 0)).setCell ⟨gb297, 10, none⟩ (.int .i64 0)).heap[gb278]? = some (.cells #[.int .i64 a0_0, .int .i64 a0_1, .slice A0_2 l0_2.length c0_2] 28 (0, 0))) := ⟨by (with_reducible repeat (first | refine blk_drewN ?_ _ | refine blk_drew ?_ | refine blk_alloc ?_ _)); refine blk_far ?_ NB278_297.out _; (with_reducible repeat (first | refine blk_drewN ?_ _ | refine blk_drew ?_ | refine blk_alloc ?_ _)); refine blk_far ?_ NB278_297.out _; (with_reducible repeat (first | refine blk_drewN ?_ _ | refine blk_drew ?_ | refine blk_alloc ?_ _)); refine blk_far ?_ NB278_297.out _; (with_reducible repeat (first | refine blk_drewN ?_ _ | refine blk_drew ?_ | refine blk_alloc ?_ _)); refine blk_far ?_ NB278_297.out _; (with_reducible repeat (first | refine blk_drewN ?_ _ | refine blk_drew ?_ | refine blk_alloc ?_ _)); refine blk_far ?_ NB278_297.out _; (with_reducible repeat (first | refine blk_drewN ?_ _ | refine blk_drew ?_ | refine blk_alloc ?_ _)); refine blk_far ?_ NB278_297.out _; (with_reducible repeat (first | refine blk_drewN ?_ _ | refine blk_drew ?_ | refine blk_alloc ?_ _)); refine blk_far ?_ NB278_297.out _; (with_reducible repeat (first | refine blk_drewN ?_ _ | refine blk_drew ?_ | refine blk_alloc ?_ _)); refine blk_far ?_ NB278_297.out _; (with_reducible repeat (first | refine blk_drewN ?_ _ | refine blk_drew ?_ | refine blk_alloc ?_ _)); refine blk_far ?_ NB278_297.out _; (with_reducible repeat (first | refine blk_drewN ?_ _ | refine blk_drew ?_ | refine blk_alloc ?_ _)); refine blk_far ?_ NB278_297.out _; (with_reducible repeat (first | refine blk_drewN ?_ _ | refine blk_drew ?_ | refine blk_alloc ?_ _)); refine blk_far ?_ NB278_297.out _; (with_reducible repeat (first | refine blk_drewN ?_ _ | refine blk_drew ?_ | refine blk_alloc ?_ _)); exact BK278.out⟩
  have n5_ : Aside0 ((((((((((((w37.setCell ⟨gb297, 0, none⟩ (.int .i64 t283)).setCell ⟨gb297, 1, none⟩ (.int .i64 t284)).setCell ⟨gb297, 2, none⟩ (.slice Ao41 t285.length co41)).setCell ⟨gb297, 3, none⟩ (.slice Ao40 t288.length co40)).setCell ⟨gb297, 4, none⟩ (.slice Ao39 t291.length co39)).setCell ⟨gb297, 5, none⟩ (.slice none 0 0)).setCell ⟨gb297, 6, none⟩ (.slice none 0 0)).setCell ⟨gb297, 7, none⟩ (.slice Ao38 y294.length co38)).setCell ⟨gb297, 8, none⟩ (.slice none 0 0)).setCell ⟨gb297, 9, none⟩ (.slice none 0 0)).setCell ⟨gb297, 10, none⟩ (.int .i64 0)).heap[gb279]? = some (.cells #[.slice A1_0 l1_0.length c1_0, .slice A1_1 l1_1.length c1_1] 32 (0, 0))) := ⟨by (with_reducible repeat (first | refine blk_drewN ?_ _ | refine blk_drew ?_ | refine blk_alloc ?_ _)); refine blk_far ?_ NB279_297.out _; (with_reducible repeat (first | refine blk_drewN ?_ _ | refine blk_drew ?_ | refine blk_alloc ?_ _)); refine blk_far ?_ NB279_297.out _; (with_reducible repeat (first | refine blk_drewN ?_ _ | refine blk_drew ?_ | refine blk_alloc ?_ _)); refine blk_far ?_ NB279_297.out _; (with_reducible repeat (first | refine blk_drewN ?_ _ | refine blk_drew ?_ | refine blk_alloc ?_ _)); refine blk_far ?_ NB279_297.out _; (with_reducible repeat (first | refine blk_drewN ?_ _ | refine blk_drew ?_ | refine blk_alloc ?_ _)); refine blk_far ?_ NB279_297.out _; (with_reducible repeat (first | refine blk_drewN ?_ _ | refine blk_drew ?_ | refine blk_alloc ?_ _)); refine blk_far ?_ NB279_297.out _; (with_reducible repeat (first | refine blk_drewN ?_ _ | refine blk_drew ?_ | refine blk_alloc ?_ _)); refine blk_far ?_ NB279_297.out _; (with_reducible repeat (first | refine blk_drewN ?_ _ | refine blk_drew ?_ | refine blk_alloc ?_ _)); refine blk_far ?_ NB279_297.out _; (with_reducible repeat (first | refine blk_drewN ?_ _ | refine blk_drew ?_ | refine blk_alloc ?_ _)); refine blk_far ?_ NB279_297.out _; (with_reducible repeat (first | refine blk_drewN ?_ _ | refine blk_drew ?_ | refine blk_alloc ?_ _)); refine blk_far ?_ NB279_297.out _; (with_reducible repeat (first | refine blk_drewN ?_ _ | refine blk_drew ?_ | refine blk_alloc ?_ _)); refine blk_far ?_ NB279_297.out _; (with_reducible repeat (first | refine blk_drewN ?_ _ | refine blk_drew ?_ | refine blk_alloc ?_ _)); exact BK279.out⟩
  have n6_ : Aside0 ((((((((((((w37.setCell ⟨gb297, 0, none⟩ (.int .i64 t283)).setCell ⟨gb297, 1, none⟩ (.int .i64 t284)).setCell ⟨gb297, 2, none⟩ (.slice Ao41 t285.length co41)).setCell ⟨gb297, 3, none⟩ (.slice Ao40 t288.length co40)).setCell ⟨gb297, 4, none⟩ (.slice Ao39 t291.length co39)).setCell ⟨gb297, 5, none⟩ (.slice none 0 0)).setCell ⟨gb297, 6, none⟩ (.slice none 0 0)).setCell ⟨gb297, 7, none⟩ (.slice Ao38 y294.length co38)).setCell ⟨gb297, 8, none⟩ (.slice none 0 0)).setCell ⟨gb297, 9, none⟩ (.slice none 0 0)).setCell ⟨gb297, 10, none⟩ (.int .i64 0)).heap[gb280]? = some (.cells #[.int .i64 0, .int .i64 0, .slice none 0 0, .slice none 0 0, .slice none 0 0, .slice none 0 0, .slice none 0 0, .slice none 0 0, .slice none 0 0, .slice none 0 0, .int .i64 0] 37 (0, 0))) := ⟨by (with_reducible repeat (first | refine blk_drewN ?_ _ | refine blk_drew ?_ | refine blk_alloc ?_ _)); refine blk_far ?_ NB280_297.out _; (with_reducible repeat (first | refine blk_drewN ?_ _ | refine blk_drew ?_ | refine blk_alloc ?_ _)); refine blk_far ?_ NB280_297.out _; (with_reducible repeat (first | refine blk_drewN ?_ _ | refine blk_drew ?_ | refine blk_alloc ?_ _)); refine blk_far ?_ NB280_297.out _; (with_reducible repeat (first | refine blk_drewN ?_ _ | refine blk_drew ?_ | refine blk_alloc ?_ _)); refine blk_far ?_ NB280_297.out _; (with_reducible repeat (first | refine blk_drewN ?_ _ | refine blk_drew ?_ | refine blk_alloc ?_ _)); refine blk_far ?_ NB280_297.out _; (with_reducible repeat (first | refine blk_drewN ?_ _ | refine blk_drew ?_ | refine blk_alloc ?_ _)); refine blk_far ?_ NB280_297.out _; (with_reducible repeat (first | refine blk_drewN ?_ _ | refine blk_drew ?_ | refine blk_alloc ?_ _)); refine blk_far ?_ NB280_297.out _; (with_reducible repeat (first | refine blk_drewN ?_ _ | refine blk_drew ?_ | refine blk_alloc ?_ _)); refine blk_far ?_ NB280_297.out _; (with_reducible repeat (first | refine blk_drewN ?_ _ | refine blk_drew ?_ | refine blk_alloc ?_ _)); refine blk_far ?_ NB280_297.out _; (with_reducible repeat (first | refine blk_drewN ?_ _ | refine blk_drew ?_ | refine blk_alloc ?_ _)); refine blk_far ?_ NB280_297.out _; (with_reducible repeat (first | refine blk_drewN ?_ _ | refine blk_drew ?_ | refine blk_alloc ?_ _)); refine blk_far ?_ NB280_297.out _; (with_reducible repeat (first | refine blk_drewN ?_ _ | refine blk_drew ?_ | refine blk_alloc ?_ _)); exact BK280.out⟩
  have n7_ : Aside0 ((((((((((((w37.setCell ⟨gb297, 0, none⟩ (.int .i64 t283)).setCell ⟨gb297, 1, none⟩ (.int .i64 t284)).setCell ⟨gb297, 2, none⟩ (.slice Ao41 t285.length co41)).setCell ⟨gb297, 3, none⟩ (.slice Ao40 t288.length co40)).setCell ⟨gb297, 4, none⟩ (.slice Ao39 t291.length co39)).setCell ⟨gb297, 5, none⟩ (.slice none 0 0)).setCell ⟨gb297, 6, none⟩ (.slice none 0 0)).setCell ⟨gb297, 7, none⟩ (.slice Ao38 y294.length co38)).setCell ⟨gb297, 8, none⟩ (.slice none 0 0)).setCell ⟨gb297, 9, none⟩ (.slice none 0 0)).setCell ⟨gb297, 10, none⟩ (.int .i64 0)).heap[gb297]? = some (.cells #[.int .i64 t283, .int .i64 t284, .slice Ao41 t285.length co41, .slice Ao40 t288.length co40, .slice Ao39 t291.length co39, .slice none 0 0, .slice none 0 0, .slice Ao38 y294.length co38, .slice none 0 0, .slice none 0 0, .int .i64 0] 37 (0, 0))) := ⟨by (with_reducible repeat (first | refine blk_drewN ?_ _ | refine blk_drew ?_ | refine blk_alloc ?_ _)); refine blk_put (cs := #[.int .i64 t283, .int .i64 t284, .slice Ao41 t285.length co41, .slice Ao40 t288.length co40, .slice Ao39 t291.length co39, .slice none 0 0, .slice none 0 0, .slice Ao38 y294.length co38, .slice none 0 0, .slice none 0 0, .int .i64 0]) ?_ 10 _ rfl; (with_reducible repeat (first | refine blk_drewN ?_ _ | refine blk_drew ?_ | refine blk_alloc ?_ _)); refine blk_put (cs := #[.int .i64 t283, .int .i64 t284, .slice Ao41 t285.length co41, .slice Ao40 t288.length co40, .slice Ao39 t291.length co39, .slice none 0 0, .slice none 0 0, .slice Ao38 y294.length co38, .slice none 0 0, .slice none 0 0, .int .i64 0]) ?_ 9 _ rfl; (with_reducible repeat (first | refine blk_drewN ?_ _ | refine blk_drew ?_ | refine blk_alloc ?_ _)); refine blk_put (cs := #[.int .i64 t283, .int .i64 t284, .slice Ao41 t285.length co41, .slice Ao40 t288.length co40, .slice Ao39 t291.length co39, .slice none 0 0, .slice none 0 0, .slice Ao38 y294.length co38, .slice none 0 0, .slice none 0 0, .int .i64 0]) ?_ 8 _ rfl; (with_reducible repeat (first | refine blk_drewN ?_ _ | refine blk_drew ?_ | refine blk_alloc ?_ _)); refine blk_put (cs := #[.int .i64 t283, .int .i64 t284, .slice Ao41 t285.length co41, .slice Ao40 t288.length co40, .slice Ao39 t291.length co39, .slice none 0 0, .slice none 0 0, .slice none 0 0, .slice none 0 0, .slice none 0 0, .int .i64 0]) ?_ 7 _ rfl; (with_reducible repeat (first | refine blk_drewN ?_ _ | refine blk_drew ?_ | refine blk_alloc ?_ _)); refine blk_put (cs := #[.int .i64 t283, .int .i64 t284, .slice Ao41 t285.length co41, .slice Ao40 t288.length co40, .slice Ao39 t291.length co39, .slice none 0 0, .slice none 0 0, .slice none 0 0, .slice none 0 0, .slice none 0 0, .int .i64 0]) ?_ 6 _ rfl; (with_reducible repeat (first | refine blk_drewN ?_ _ | refine blk_drew ?_ | refine blk_alloc ?_ _)); refine blk_put (cs := #[.int .i64 t283, .int .i64 t284, .slice Ao41 t285.length co41, .slice Ao40 t288.length co40, .slice Ao39 t291.length co39, .slice none 0 0, .slice none 0 0, .slice none 0 0, .slice none 0 0, .slice none 0 0, .int .i64 0]) ?_ 5 _ rfl; (with_reducible repeat (first | refine blk_drewN ?_ _ | refine blk_drew ?_ | refine blk_alloc ?_ _)); refine blk_put (cs := #[.int .i64 t283, .int .i64 t284, .slice Ao41 t285.length co41, .slice Ao40 t288.length co40, .slice none 0 0, .slice none 0 0, .slice none 0 0, .slice none 0 0, .slice none 0 0, .slice none 0 0, .int .i64 0]) ?_ 4 _ rfl; (with_reducible repeat (first | refine blk_drewN ?_ _ | refine blk_drew ?_ | refine blk_alloc ?_ _)); refine blk_put (cs := #[.int .i64 t283, .int .i64 t284, .slice Ao41 t285.length co41, .slice none 0 0, .slice none 0 0, .slice none 0 0, .slice none 0 0, .slice none 0 0, .slice none 0 0, .slice none 0 0, .int .i64 0]) ?_ 3 _ rfl; (with_reducible repeat (first | refine blk_drewN ?_ _ | refine blk_drew ?_ | refine blk_alloc ?_ _)); refine blk_put (cs := #[.int .i64 t283, .int .i64 t284, .slice none 0 0, .slice none 0 0, .slice none 0 0, .slice none 0 0, .slice none 0 0, .slice none 0 0, .slice none 0 0, .slice none 0 0, .int .i64 0]) ?_ 2 _ rfl; (with_reducible repeat (first | refine blk_drewN ?_ _ | refine blk_drew ?_ | refine blk_alloc ?_ _)); refine blk_put (cs := #[.int .i64 t283, .int .i64 0, .slice none 0 0, .slice none 0 0, .slice none 0 0, .slice none 0 0, .slice none 0 0, .slice none 0 0, .slice none 0 0, .slice none 0 0, .int .i64 0]) ?_ 1 _ rfl; (with_reducible repeat (first | refine blk_drewN ?_ _ | refine blk_drew ?_ | refine blk_alloc ?_ _)); refine blk_put (cs := #[.int .i64 0, .int .i64 0, .slice none 0 0, .slice none 0 0, .slice none 0 0, .slice none 0 0, .slice none 0 0, .slice none 0 0, .slice none 0 0, .slice none 0 0, .int .i64 0]) ?_ 0 _ rfl; (with_reducible repeat (first | refine blk_drewN ?_ _ | refine blk_drew ?_ | refine blk_alloc ?_ _)); exact BK297.out⟩
  have n8_ : Aside0 (Below w.heap.size w (((((((((((w37.setCell ⟨gb297, 0, none⟩ (.int .i64 t283)).setCell ⟨gb297, 1, none⟩ (.int .i64 t284)).setCell ⟨gb297, 2, none⟩ (.slice Ao41 t285.length co41)).setCell ⟨gb297, 3, none⟩ (.slice Ao40 t288.length co40)).setCell ⟨gb297, 4, none⟩ (.slice Ao39 t291.length co39)).setCell ⟨gb297, 5, none⟩ (.slice none 0 0)).setCell ⟨gb297, 6, none⟩ (.slice none 0 0)).setCell ⟨gb297, 7, none⟩ (.slice Ao38 y294.length co38)).setCell ⟨gb297, 8, none⟩ (.slice none 0 0)).setCell ⟨gb297, 9, none⟩ (.slice none 0 0)).setCell ⟨gb297, 10, none⟩ (.int .i64 0))) := ⟨bb_ HB.out⟩
  (try clear HO287)
  (try clear HO290)
  (try clear HO293)
  (try clear HO296)
  (try clear BK278)
  (try clear BK279)
  (try clear BK280)
  (try clear BK297)
  (try clear HB)
  generalize (((((((((((w37.setCell ⟨gb297, 0, none⟩ (.int .i64 t283)).setCell ⟨gb297, 1, none⟩ (.int .i64 t284)).setCell ⟨gb297, 2, none⟩ (.slice Ao41 t285.length co41)).setCell ⟨gb297, 3, none⟩ (.slice Ao40 t288.length co40)).setCell ⟨gb297, 4, none⟩ (.slice Ao39 t291.length co39)).setCell ⟨gb297, 5, none⟩ (.slice none 0 0)).setCell ⟨gb297, 6, none⟩ (.slice none 0 0)).setCell ⟨gb297, 7, none⟩ (.slice Ao38 y294.length co38)).setCell ⟨gb297, 8, none⟩ (.slice none 0 0)).setCell ⟨gb297, 9, none⟩ (.slice none 0 0)).setCell ⟨gb297, 10, none⟩ (.int .i64 0)) = w53 at n0_ n1_ n2_ n3_ n4_ n5_ n6_ n7_ n8_ ⊢
  have HO287 := n0_
  have HO290 := n1_
  have HO293 := n2_
  have HO296 := n3_
  have BK278 := n4_
  have BK279 := n5_
  have BK280 := n6_
  have BK297 := n7_
  have HB := n8_
  clear n0_ n1_ n2_ n3_ n4_ n5_ n6_ n7_ n8_
  replace HO287 := Aside0.mk (Kd.R_drew HO287.out)
  replace HO290 := Aside0.mk (Kd.R_drew HO290.out)
  replace HO293 := Aside0.mk (Kd.R_drew HO293.out)
  replace HO296 := Aside0.mk (Kd.R_drew HO296.out)
  replace BK278 := Aside0.mk (blk_drew BK278.out)
  replace BK279 := Aside0.mk (blk_drew BK279.out)
  replace BK280 := Aside0.mk (blk_drew BK280.out)
  replace BK297 := Aside0.mk (blk_drew BK297.out)
  replace HB := Aside0.mk (below_drew1 HB.out)
  refine start_ (n := 13) (S := fun w' => True) (ds := []) #[false, false, false, false, false, false, false, false, false, false, false, false, false] (by kernel_rfl) rfl rfl trivial (fun hHeld => ?_); refine with_tabW impl_NetNew.tab5 impl_NetNew.bits5 (fun HT_ HW_ => ?_)
  generalize w53.drew = w54 at HO287 HO290 HO293 HO296 BK278 BK279 BK280 BK297 HB hHeld ⊢
  refine pu_ 0 24 (bt_ 13 1) HT_ ?_
  refine pu_ 1 25 (bt_ 13 3) HT_ ?_
  refine pu_ 3 27 (bt_ 13 11) HT_ ?_
  refine pu_ 5 29 (bt_ 13 43) HT_ ?_
  refine join_ (σ := Value × Value × Value) 2 #[true, true, true, true, true, true, true, true, true, true, true, false, false] (fun s_ => [(26, s_.1), (28, s_.2.1), (30, s_.2.2), (31, .pointer (some ⟨gb297, 5, none⟩)), (32, .pointer (some ⟨gb297, 8, none⟩))]) (fun s_ w' => (Kd.R (Kd.int .i64) 3 w' w.heap.size (fun k_ => some k_ ≠ (.slice Ao40 t288.length co40 : Value).ownBlock ∧ some k_ ≠ (.slice Ao39 t291.length co39 : Value).ownBlock ∧ some k_ ≠ (.slice Ao38 y294.length co38 : Value).ownBlock) (.slice Ao41 t285.length co41) t285) ∧ (Kd.R (Kd.int .i64) 3 w' w.heap.size (fun k_ => some k_ ≠ (.slice Ao41 t285.length co41 : Value).ownBlock ∧ some k_ ≠ (.slice Ao39 t291.length co39 : Value).ownBlock ∧ some k_ ≠ (.slice Ao38 y294.length co38 : Value).ownBlock) (.slice Ao40 t288.length co40) t288) ∧ (Kd.R (Kd.int .i64) 3 w' w.heap.size (fun k_ => some k_ ≠ (.slice Ao41 t285.length co41 : Value).ownBlock ∧ some k_ ≠ (.slice Ao40 t288.length co40 : Value).ownBlock ∧ some k_ ≠ (.slice Ao38 y294.length co38 : Value).ownBlock) (.slice Ao39 t291.length co39) t291) ∧ (Kd.R (Kd.int .i64) 3 w' w.heap.size (fun k_ => some k_ ≠ (.slice Ao41 t285.length co41 : Value).ownBlock ∧ some k_ ≠ (.slice Ao40 t288.length co40 : Value).ownBlock ∧ some k_ ≠ (.slice Ao39 t291.length co39 : Value).ownBlock) (.slice Ao38 y294.length co38) y294) ∧ (Kd.S (Kd.slice 112 k112) 81 w' w.heap.size (fun k_ => some k_ ≠ (s_.2.1 : Value).ownBlock ∧ some k_ ≠ (s_.2.2 : Value).ownBlock) s_.1 y298) ∧ (Kd.S (Kd.slice 112 k112) 81 w' w.heap.size (fun k_ => some k_ ≠ (s_.1 : Value).ownBlock ∧ some k_ ≠ (s_.2.2 : Value).ownBlock) s_.2.1 y301) ∧ (Kd.S (Kd.slice 112 k112) 81 w' w.heap.size (fun k_ => some k_ ≠ (s_.1 : Value).ownBlock ∧ some k_ ≠ (s_.2.1 : Value).ownBlock) s_.2.2 y304) ∧ (w'.heap[gb278]? = some (.cells #[.int .i64 a0_0, .int .i64 a0_1, .slice A0_2 l0_2.length c0_2] 28 (0, 0))) ∧ (w'.heap[gb279]? = some (.cells #[.slice A1_0 l1_0.length c1_0, .slice A1_1 l1_1.length c1_1] 32 (0, 0))) ∧ (w'.heap[gb280]? = some (.cells #[.int .i64 0, .int .i64 0, .slice none 0 0, .slice none 0 0, .slice none 0 0, .slice none 0 0, .slice none 0 0, .slice none 0 0, .slice none 0 0, .slice none 0 0, .int .i64 0] 37 (0, 0))) ∧ (w'.heap[gb297]? = some (.cells #[.int .i64 t283, .int .i64 t284, .slice Ao41 t285.length co41, .slice Ao40 t288.length co40, .slice Ao39 t291.length co39, s_.1, .slice none 0 0, .slice Ao38 y294.length co38, s_.2.1, .slice none 0 0, .int .i64 0] 37 (0, 0))) ∧ (Below w.heap.size w w')) ?_ ?_
  rotate_left
  ·intro hJ2_4_6_8_10
   refine join_ (σ := Value × Value × Value) 3 #[true, true, true, true, true, true, true, true, true, true, false, false, false] (fun s_ => [(26, s_.1), (28, s_.2.1), (30, s_.2.2), (31, .pointer (some ⟨gb297, 5, none⟩)), (32, .pointer (some ⟨gb297, 8, none⟩))]) (fun s_ w' => (Kd.R (Kd.int .i64) 3 w' w.heap.size (fun k_ => some k_ ≠ (.slice Ao40 t288.length co40 : Value).ownBlock ∧ some k_ ≠ (.slice Ao39 t291.length co39 : Value).ownBlock ∧ some k_ ≠ (.slice Ao38 y294.length co38 : Value).ownBlock) (.slice Ao41 t285.length co41) t285) ∧ (Kd.R (Kd.int .i64) 3 w' w.heap.size (fun k_ => some k_ ≠ (.slice Ao41 t285.length co41 : Value).ownBlock ∧ some k_ ≠ (.slice Ao39 t291.length co39 : Value).ownBlock ∧ some k_ ≠ (.slice Ao38 y294.length co38 : Value).ownBlock) (.slice Ao40 t288.length co40) t288) ∧ (Kd.R (Kd.int .i64) 3 w' w.heap.size (fun k_ => some k_ ≠ (.slice Ao41 t285.length co41 : Value).ownBlock ∧ some k_ ≠ (.slice Ao40 t288.length co40 : Value).ownBlock ∧ some k_ ≠ (.slice Ao38 y294.length co38 : Value).ownBlock) (.slice Ao39 t291.length co39) t291) ∧ (Kd.R (Kd.int .i64) 3 w' w.heap.size (fun k_ => some k_ ≠ (.slice Ao41 t285.length co41 : Value).ownBlock ∧ some k_ ≠ (.slice Ao40 t288.length co40 : Value).ownBlock ∧ some k_ ≠ (.slice Ao39 t291.length co39 : Value).ownBlock) (.slice Ao38 y294.length co38) y294) ∧ (Kd.S (Kd.slice 112 k112) 81 w' w.heap.size (fun k_ => some k_ ≠ (s_.2.1 : Value).ownBlock ∧ some k_ ≠ (s_.2.2 : Value).ownBlock) s_.1 y298) ∧ (Kd.S (Kd.slice 112 k112) 81 w' w.heap.size (fun k_ => some k_ ≠ (s_.1 : Value).ownBlock ∧ some k_ ≠ (s_.2.2 : Value).ownBlock) s_.2.1 y301) ∧ (Kd.S (Kd.slice 112 k112) 81 w' w.heap.size (fun k_ => some k_ ≠ (s_.1 : Value).ownBlock ∧ some k_ ≠ (s_.2.1 : Value).ownBlock) s_.2.2 y304) ∧ (w'.heap[gb278]? = some (.cells #[.int .i64 a0_0, .int .i64 a0_1, .slice A0_2 l0_2.length c0_2] 28 (0, 0))) ∧ (w'.heap[gb279]? = some (.cells #[.slice A1_0 l1_0.length c1_0, .slice A1_1 l1_1.length c1_1] 32 (0, 0))) ∧ (w'.heap[gb280]? = some (.cells #[.int .i64 0, .int .i64 0, .slice none 0 0, .slice none 0 0, .slice none 0 0, .slice none 0 0, .slice none 0 0, .slice none 0 0, .slice none 0 0, .slice none 0 0, .int .i64 0] 37 (0, 0))) ∧ (w'.heap[gb297]? = some (.cells #[.int .i64 t283, .int .i64 t284, .slice Ao41 t285.length co41, .slice Ao40 t288.length co40, .slice Ao39 t291.length co39, s_.1, .slice none 0 0, .slice Ao38 y294.length co38, .slice none 0 0, .slice none 0 0, .int .i64 0] 37 (0, 0))) ∧ (Below w.heap.size w w')) ?_ ?_
   rotate_left
   ·intro hJ2_4_6_8
    refine join_ (σ := Value × Value) 3 #[true, true, true, true, true, true, false, true, true, true, true, false, false] (fun s_ => [(26, s_.1), (28, s_.2), (31, .pointer (some ⟨gb297, 5, none⟩)), (32, .pointer (some ⟨gb297, 8, none⟩))]) (fun s_ w' => (Kd.R (Kd.int .i64) 3 w' w.heap.size (fun k_ => some k_ ≠ (.slice Ao40 t288.length co40 : Value).ownBlock ∧ some k_ ≠ (.slice Ao39 t291.length co39 : Value).ownBlock ∧ some k_ ≠ (.slice Ao38 y294.length co38 : Value).ownBlock) (.slice Ao41 t285.length co41) t285) ∧ (Kd.R (Kd.int .i64) 3 w' w.heap.size (fun k_ => some k_ ≠ (.slice Ao41 t285.length co41 : Value).ownBlock ∧ some k_ ≠ (.slice Ao39 t291.length co39 : Value).ownBlock ∧ some k_ ≠ (.slice Ao38 y294.length co38 : Value).ownBlock) (.slice Ao40 t288.length co40) t288) ∧ (Kd.R (Kd.int .i64) 3 w' w.heap.size (fun k_ => some k_ ≠ (.slice Ao41 t285.length co41 : Value).ownBlock ∧ some k_ ≠ (.slice Ao40 t288.length co40 : Value).ownBlock ∧ some k_ ≠ (.slice Ao38 y294.length co38 : Value).ownBlock) (.slice Ao39 t291.length co39) t291) ∧ (Kd.R (Kd.int .i64) 3 w' w.heap.size (fun k_ => some k_ ≠ (.slice Ao41 t285.length co41 : Value).ownBlock ∧ some k_ ≠ (.slice Ao40 t288.length co40 : Value).ownBlock ∧ some k_ ≠ (.slice Ao39 t291.length co39 : Value).ownBlock) (.slice Ao38 y294.length co38) y294) ∧ (Kd.S (Kd.slice 112 k112) 81 w' w.heap.size (fun k_ => some k_ ≠ (s_.2 : Value).ownBlock) s_.1 y298) ∧ (Kd.S (Kd.slice 112 k112) 81 w' w.heap.size (fun k_ => some k_ ≠ (s_.1 : Value).ownBlock) s_.2 y301) ∧ (w'.heap[gb278]? = some (.cells #[.int .i64 a0_0, .int .i64 a0_1, .slice A0_2 l0_2.length c0_2] 28 (0, 0))) ∧ (w'.heap[gb279]? = some (.cells #[.slice A1_0 l1_0.length c1_0, .slice A1_1 l1_1.length c1_1] 32 (0, 0))) ∧ (w'.heap[gb280]? = some (.cells #[.int .i64 0, .int .i64 0, .slice none 0 0, .slice none 0 0, .slice none 0 0, .slice none 0 0, .slice none 0 0, .slice none 0 0, .slice none 0 0, .slice none 0 0, .int .i64 0] 37 (0, 0))) ∧ (w'.heap[gb297]? = some (.cells #[.int .i64 t283, .int .i64 t284, .slice Ao41 t285.length co41, .slice Ao40 t288.length co40, .slice Ao39 t291.length co39, s_.1, .slice none 0 0, .slice Ao38 y294.length co38, s_.2, .slice none 0 0, .int .i64 0] 37 (0, 0))) ∧ (Below w.heap.size w w')) ?_ ?_
    rotate_left
    ·intro hJ2_4_8_10
     refine join_ (σ := Value × Value × Value) 5 #[true, true, true, true, true, true, true, true, false, false, false, false, false] (fun s_ => [(26, s_.1), (28, s_.2.1), (30, s_.2.2), (31, .pointer (some ⟨gb297, 5, none⟩))]) (fun s_ w' => (Kd.R (Kd.int .i64) 3 w' w.heap.size (fun k_ => some k_ ≠ (.slice Ao40 t288.length co40 : Value).ownBlock ∧ some k_ ≠ (.slice Ao39 t291.length co39 : Value).ownBlock ∧ some k_ ≠ (.slice Ao38 y294.length co38 : Value).ownBlock) (.slice Ao41 t285.length co41) t285) ∧ (Kd.R (Kd.int .i64) 3 w' w.heap.size (fun k_ => some k_ ≠ (.slice Ao41 t285.length co41 : Value).ownBlock ∧ some k_ ≠ (.slice Ao39 t291.length co39 : Value).ownBlock ∧ some k_ ≠ (.slice Ao38 y294.length co38 : Value).ownBlock) (.slice Ao40 t288.length co40) t288) ∧ (Kd.R (Kd.int .i64) 3 w' w.heap.size (fun k_ => some k_ ≠ (.slice Ao41 t285.length co41 : Value).ownBlock ∧ some k_ ≠ (.slice Ao40 t288.length co40 : Value).ownBlock ∧ some k_ ≠ (.slice Ao38 y294.length co38 : Value).ownBlock) (.slice Ao39 t291.length co39) t291) ∧ (Kd.R (Kd.int .i64) 3 w' w.heap.size (fun k_ => some k_ ≠ (.slice Ao41 t285.length co41 : Value).ownBlock ∧ some k_ ≠ (.slice Ao40 t288.length co40 : Value).ownBlock ∧ some k_ ≠ (.slice Ao39 t291.length co39 : Value).ownBlock) (.slice Ao38 y294.length co38) y294) ∧ (Kd.S (Kd.slice 112 k112) 81 w' w.heap.size (fun k_ => some k_ ≠ (s_.2.1 : Value).ownBlock ∧ some k_ ≠ (s_.2.2 : Value).ownBlock) s_.1 y298) ∧ (Kd.S (Kd.slice 112 k112) 81 w' w.heap.size (fun k_ => some k_ ≠ (s_.1 : Value).ownBlock ∧ some k_ ≠ (s_.2.2 : Value).ownBlock) s_.2.1 y301) ∧ (Kd.S (Kd.slice 112 k112) 81 w' w.heap.size (fun k_ => some k_ ≠ (s_.1 : Value).ownBlock ∧ some k_ ≠ (s_.2.1 : Value).ownBlock) s_.2.2 y304) ∧ (w'.heap[gb278]? = some (.cells #[.int .i64 a0_0, .int .i64 a0_1, .slice A0_2 l0_2.length c0_2] 28 (0, 0))) ∧ (w'.heap[gb279]? = some (.cells #[.slice A1_0 l1_0.length c1_0, .slice A1_1 l1_1.length c1_1] 32 (0, 0))) ∧ (w'.heap[gb280]? = some (.cells #[.int .i64 0, .int .i64 0, .slice none 0 0, .slice none 0 0, .slice none 0 0, .slice none 0 0, .slice none 0 0, .slice none 0 0, .slice none 0 0, .slice none 0 0, .int .i64 0] 37 (0, 0))) ∧ (w'.heap[gb297]? = some (.cells #[.int .i64 t283, .int .i64 t284, .slice Ao41 t285.length co41, .slice Ao40 t288.length co40, .slice Ao39 t291.length co39, .slice none 0 0, .slice none 0 0, .slice Ao38 y294.length co38, .slice none 0 0, .slice none 0 0, .int .i64 0] 37 (0, 0))) ∧ (Below w.heap.size w w')) ?_ ?_
     rotate_left
     ·intro hJ2_4_6
      refine join_ (σ := Value × Value) 4 #[true, true, true, true, true, true, false, true, true, true, false, false, false] (fun s_ => [(26, s_.1), (28, s_.2), (31, .pointer (some ⟨gb297, 5, none⟩)), (32, .pointer (some ⟨gb297, 8, none⟩))]) (fun s_ w' => (Kd.R (Kd.int .i64) 3 w' w.heap.size (fun k_ => some k_ ≠ (.slice Ao40 t288.length co40 : Value).ownBlock ∧ some k_ ≠ (.slice Ao39 t291.length co39 : Value).ownBlock ∧ some k_ ≠ (.slice Ao38 y294.length co38 : Value).ownBlock) (.slice Ao41 t285.length co41) t285) ∧ (Kd.R (Kd.int .i64) 3 w' w.heap.size (fun k_ => some k_ ≠ (.slice Ao41 t285.length co41 : Value).ownBlock ∧ some k_ ≠ (.slice Ao39 t291.length co39 : Value).ownBlock ∧ some k_ ≠ (.slice Ao38 y294.length co38 : Value).ownBlock) (.slice Ao40 t288.length co40) t288) ∧ (Kd.R (Kd.int .i64) 3 w' w.heap.size (fun k_ => some k_ ≠ (.slice Ao41 t285.length co41 : Value).ownBlock ∧ some k_ ≠ (.slice Ao40 t288.length co40 : Value).ownBlock ∧ some k_ ≠ (.slice Ao38 y294.length co38 : Value).ownBlock) (.slice Ao39 t291.length co39) t291) ∧ (Kd.R (Kd.int .i64) 3 w' w.heap.size (fun k_ => some k_ ≠ (.slice Ao41 t285.length co41 : Value).ownBlock ∧ some k_ ≠ (.slice Ao40 t288.length co40 : Value).ownBlock ∧ some k_ ≠ (.slice Ao39 t291.length co39 : Value).ownBlock) (.slice Ao38 y294.length co38) y294) ∧ (Kd.S (Kd.slice 112 k112) 81 w' w.heap.size (fun k_ => some k_ ≠ (s_.2 : Value).ownBlock) s_.1 y298) ∧ (Kd.S (Kd.slice 112 k112) 81 w' w.heap.size (fun k_ => some k_ ≠ (s_.1 : Value).ownBlock) s_.2 y301) ∧ (w'.heap[gb278]? = some (.cells #[.int .i64 a0_0, .int .i64 a0_1, .slice A0_2 l0_2.length c0_2] 28 (0, 0))) ∧ (w'.heap[gb279]? = some (.cells #[.slice A1_0 l1_0.length c1_0, .slice A1_1 l1_1.length c1_1] 32 (0, 0))) ∧ (w'.heap[gb280]? = some (.cells #[.int .i64 0, .int .i64 0, .slice none 0 0, .slice none 0 0, .slice none 0 0, .slice none 0 0, .slice none 0 0, .slice none 0 0, .slice none 0 0, .slice none 0 0, .int .i64 0] 37 (0, 0))) ∧ (w'.heap[gb297]? = some (.cells #[.int .i64 t283, .int .i64 t284, .slice Ao41 t285.length co41, .slice Ao40 t288.length co40, .slice Ao39 t291.length co39, s_.1, .slice none 0 0, .slice Ao38 y294.length co38, .slice none 0 0, .slice none 0 0, .int .i64 0] 37 (0, 0))) ∧ (Below w.heap.size w w')) ?_ ?_
      rotate_left
      ·intro hJ2_4_8
       refine join_ (σ := Value × Value) 5 #[true, true, true, true, false, true, true, true, true, false, false, false, false] (fun s_ => [(26, s_.1), (30, s_.2), (31, .pointer (some ⟨gb297, 5, none⟩))]) (fun s_ w' => (Kd.R (Kd.int .i64) 3 w' w.heap.size (fun k_ => some k_ ≠ (.slice Ao40 t288.length co40 : Value).ownBlock ∧ some k_ ≠ (.slice Ao39 t291.length co39 : Value).ownBlock ∧ some k_ ≠ (.slice Ao38 y294.length co38 : Value).ownBlock) (.slice Ao41 t285.length co41) t285) ∧ (Kd.R (Kd.int .i64) 3 w' w.heap.size (fun k_ => some k_ ≠ (.slice Ao41 t285.length co41 : Value).ownBlock ∧ some k_ ≠ (.slice Ao39 t291.length co39 : Value).ownBlock ∧ some k_ ≠ (.slice Ao38 y294.length co38 : Value).ownBlock) (.slice Ao40 t288.length co40) t288) ∧ (Kd.R (Kd.int .i64) 3 w' w.heap.size (fun k_ => some k_ ≠ (.slice Ao41 t285.length co41 : Value).ownBlock ∧ some k_ ≠ (.slice Ao40 t288.length co40 : Value).ownBlock ∧ some k_ ≠ (.slice Ao38 y294.length co38 : Value).ownBlock) (.slice Ao39 t291.length co39) t291) ∧ (Kd.R (Kd.int .i64) 3 w' w.heap.size (fun k_ => some k_ ≠ (.slice Ao41 t285.length co41 : Value).ownBlock ∧ some k_ ≠ (.slice Ao40 t288.length co40 : Value).ownBlock ∧ some k_ ≠ (.slice Ao39 t291.length co39 : Value).ownBlock) (.slice Ao38 y294.length co38) y294) ∧ (Kd.S (Kd.slice 112 k112) 81 w' w.heap.size (fun k_ => some k_ ≠ (s_.2 : Value).ownBlock) s_.1 y298) ∧ (Kd.S (Kd.slice 112 k112) 81 w' w.heap.size (fun k_ => some k_ ≠ (s_.1 : Value).ownBlock) s_.2 y304) ∧ (w'.heap[gb278]? = some (.cells #[.int .i64 a0_0, .int .i64 a0_1, .slice A0_2 l0_2.length c0_2] 28 (0, 0))) ∧ (w'.heap[gb279]? = some (.cells #[.slice A1_0 l1_0.length c1_0, .slice A1_1 l1_1.length c1_1] 32 (0, 0))) ∧ (w'.heap[gb280]? = some (.cells #[.int .i64 0, .int .i64 0, .slice none 0 0, .slice none 0 0, .slice none 0 0, .slice none 0 0, .slice none 0 0, .slice none 0 0, .slice none 0 0, .slice none 0 0, .int .i64 0] 37 (0, 0))) ∧ (w'.heap[gb297]? = some (.cells #[.int .i64 t283, .int .i64 t284, .slice Ao41 t285.length co41, .slice Ao40 t288.length co40, .slice Ao39 t291.length co39, s_.1, .slice none 0 0, .slice Ao38 y294.length co38, .slice none 0 0, .slice none 0 0, .int .i64 0] 37 (0, 0))) ∧ (Below w.heap.size w w')) ?_ ?_
       rotate_left
       ·intro hJ2_6_8
        refine join_ (σ := Value × Value) 6 #[true, true, true, true, true, true, false, true, false, false, false, false, false] (fun s_ => [(26, s_.1), (28, s_.2), (31, .pointer (some ⟨gb297, 5, none⟩))]) (fun s_ w' => (Kd.R (Kd.int .i64) 3 w' w.heap.size (fun k_ => some k_ ≠ (.slice Ao40 t288.length co40 : Value).ownBlock ∧ some k_ ≠ (.slice Ao39 t291.length co39 : Value).ownBlock ∧ some k_ ≠ (.slice Ao38 y294.length co38 : Value).ownBlock) (.slice Ao41 t285.length co41) t285) ∧ (Kd.R (Kd.int .i64) 3 w' w.heap.size (fun k_ => some k_ ≠ (.slice Ao41 t285.length co41 : Value).ownBlock ∧ some k_ ≠ (.slice Ao39 t291.length co39 : Value).ownBlock ∧ some k_ ≠ (.slice Ao38 y294.length co38 : Value).ownBlock) (.slice Ao40 t288.length co40) t288) ∧ (Kd.R (Kd.int .i64) 3 w' w.heap.size (fun k_ => some k_ ≠ (.slice Ao41 t285.length co41 : Value).ownBlock ∧ some k_ ≠ (.slice Ao40 t288.length co40 : Value).ownBlock ∧ some k_ ≠ (.slice Ao38 y294.length co38 : Value).ownBlock) (.slice Ao39 t291.length co39) t291) ∧ (Kd.R (Kd.int .i64) 3 w' w.heap.size (fun k_ => some k_ ≠ (.slice Ao41 t285.length co41 : Value).ownBlock ∧ some k_ ≠ (.slice Ao40 t288.length co40 : Value).ownBlock ∧ some k_ ≠ (.slice Ao39 t291.length co39 : Value).ownBlock) (.slice Ao38 y294.length co38) y294) ∧ (Kd.S (Kd.slice 112 k112) 81 w' w.heap.size (fun k_ => some k_ ≠ (s_.2 : Value).ownBlock) s_.1 y298) ∧ (Kd.S (Kd.slice 112 k112) 81 w' w.heap.size (fun k_ => some k_ ≠ (s_.1 : Value).ownBlock) s_.2 y301) ∧ (w'.heap[gb278]? = some (.cells #[.int .i64 a0_0, .int .i64 a0_1, .slice A0_2 l0_2.length c0_2] 28 (0, 0))) ∧ (w'.heap[gb279]? = some (.cells #[.slice A1_0 l1_0.length c1_0, .slice A1_1 l1_1.length c1_1] 32 (0, 0))) ∧ (w'.heap[gb280]? = some (.cells #[.int .i64 0, .int .i64 0, .slice none 0 0, .slice none 0 0, .slice none 0 0, .slice none 0 0, .slice none 0 0, .slice none 0 0, .slice none 0 0, .slice none 0 0, .int .i64 0] 37 (0, 0))) ∧ (w'.heap[gb297]? = some (.cells #[.int .i64 t283, .int .i64 t284, .slice Ao41 t285.length co41, .slice Ao40 t288.length co40, .slice Ao39 t291.length co39, .slice none 0 0, .slice none 0 0, .slice Ao38 y294.length co38, .slice none 0 0, .slice none 0 0, .int .i64 0] 37 (0, 0))) ∧ (Below w.heap.size w w')) ?_ ?_
        rotate_left
        ·intro hJ2_4
         refine join_ (σ := Value × Value) 6 #[true, true, true, true, false, true, true, true, false, false, false, false, false] (fun s_ => [(26, s_.1), (30, s_.2), (31, .pointer (some ⟨gb297, 5, none⟩))]) (fun s_ w' => (Kd.R (Kd.int .i64) 3 w' w.heap.size (fun k_ => some k_ ≠ (.slice Ao40 t288.length co40 : Value).ownBlock ∧ some k_ ≠ (.slice Ao39 t291.length co39 : Value).ownBlock ∧ some k_ ≠ (.slice Ao38 y294.length co38 : Value).ownBlock) (.slice Ao41 t285.length co41) t285) ∧ (Kd.R (Kd.int .i64) 3 w' w.heap.size (fun k_ => some k_ ≠ (.slice Ao41 t285.length co41 : Value).ownBlock ∧ some k_ ≠ (.slice Ao39 t291.length co39 : Value).ownBlock ∧ some k_ ≠ (.slice Ao38 y294.length co38 : Value).ownBlock) (.slice Ao40 t288.length co40) t288) ∧ (Kd.R (Kd.int .i64) 3 w' w.heap.size (fun k_ => some k_ ≠ (.slice Ao41 t285.length co41 : Value).ownBlock ∧ some k_ ≠ (.slice Ao40 t288.length co40 : Value).ownBlock ∧ some k_ ≠ (.slice Ao38 y294.length co38 : Value).ownBlock) (.slice Ao39 t291.length co39) t291) ∧ (Kd.R (Kd.int .i64) 3 w' w.heap.size (fun k_ => some k_ ≠ (.slice Ao41 t285.length co41 : Value).ownBlock ∧ some k_ ≠ (.slice Ao40 t288.length co40 : Value).ownBlock ∧ some k_ ≠ (.slice Ao39 t291.length co39 : Value).ownBlock) (.slice Ao38 y294.length co38) y294) ∧ (Kd.S (Kd.slice 112 k112) 81 w' w.heap.size (fun k_ => some k_ ≠ (s_.2 : Value).ownBlock) s_.1 y298) ∧ (Kd.S (Kd.slice 112 k112) 81 w' w.heap.size (fun k_ => some k_ ≠ (s_.1 : Value).ownBlock) s_.2 y304) ∧ (w'.heap[gb278]? = some (.cells #[.int .i64 a0_0, .int .i64 a0_1, .slice A0_2 l0_2.length c0_2] 28 (0, 0))) ∧ (w'.heap[gb279]? = some (.cells #[.slice A1_0 l1_0.length c1_0, .slice A1_1 l1_1.length c1_1] 32 (0, 0))) ∧ (w'.heap[gb280]? = some (.cells #[.int .i64 0, .int .i64 0, .slice none 0 0, .slice none 0 0, .slice none 0 0, .slice none 0 0, .slice none 0 0, .slice none 0 0, .slice none 0 0, .slice none 0 0, .int .i64 0] 37 (0, 0))) ∧ (w'.heap[gb297]? = some (.cells #[.int .i64 t283, .int .i64 t284, .slice Ao41 t285.length co41, .slice Ao40 t288.length co40, .slice Ao39 t291.length co39, .slice none 0 0, .slice none 0 0, .slice Ao38 y294.length co38, .slice none 0 0, .slice none 0 0, .int .i64 0] 37 (0, 0))) ∧ (Below w.heap.size w w')) ?_ ?_
         rotate_left
         ·intro hJ2_6
          refine join_ (σ := Value) 6 #[true, true, true, true, false, true, false, true, true, false, false, false, false] (fun s_ => [(26, s_), (31, .pointer (some ⟨gb297, 5, none⟩))]) (fun s_ w' => (Kd.R (Kd.int .i64) 3 w' w.heap.size (fun k_ => some k_ ≠ (.slice Ao40 t288.length co40 : Value).ownBlock ∧ some k_ ≠ (.slice Ao39 t291.length co39 : Value).ownBlock ∧ some k_ ≠ (.slice Ao38 y294.length co38 : Value).ownBlock) (.slice Ao41 t285.length co41) t285) ∧ (Kd.R (Kd.int .i64) 3 w' w.heap.size (fun k_ => some k_ ≠ (.slice Ao41 t285.length co41 : Value).ownBlock ∧ some k_ ≠ (.slice Ao39 t291.length co39 : Value).ownBlock ∧ some k_ ≠ (.slice Ao38 y294.length co38 : Value).ownBlock) (.slice Ao40 t288.length co40) t288) ∧ (Kd.R (Kd.int .i64) 3 w' w.heap.size (fun k_ => some k_ ≠ (.slice Ao41 t285.length co41 : Value).ownBlock ∧ some k_ ≠ (.slice Ao40 t288.length co40 : Value).ownBlock ∧ some k_ ≠ (.slice Ao38 y294.length co38 : Value).ownBlock) (.slice Ao39 t291.length co39) t291) ∧ (Kd.R (Kd.int .i64) 3 w' w.heap.size (fun k_ => some k_ ≠ (.slice Ao41 t285.length co41 : Value).ownBlock ∧ some k_ ≠ (.slice Ao40 t288.length co40 : Value).ownBlock ∧ some k_ ≠ (.slice Ao39 t291.length co39 : Value).ownBlock) (.slice Ao38 y294.length co38) y294) ∧ (Kd.S (Kd.slice 112 k112) 81 w' w.heap.size (fun _ => True) s_ y298) ∧ (w'.heap[gb278]? = some (.cells #[.int .i64 a0_0, .int .i64 a0_1, .slice A0_2 l0_2.length c0_2] 28 (0, 0))) ∧ (w'.heap[gb279]? = some (.cells #[.slice A1_0 l1_0.length c1_0, .slice A1_1 l1_1.length c1_1] 32 (0, 0))) ∧ (w'.heap[gb280]? = some (.cells #[.int .i64 0, .int .i64 0, .slice none 0 0, .slice none 0 0, .slice none 0 0, .slice none 0 0, .slice none 0 0, .slice none 0 0, .slice none 0 0, .slice none 0 0, .int .i64 0] 37 (0, 0))) ∧ (w'.heap[gb297]? = some (.cells #[.int .i64 t283, .int .i64 t284, .slice Ao41 t285.length co41, .slice Ao40 t288.length co40, .slice Ao39 t291.length co39, s_, .slice none 0 0, .slice Ao38 y294.length co38, .slice none 0 0, .slice none 0 0, .int .i64 0] 37 (0, 0))) ∧ (Below w.heap.size w w')) ?_ ?_
          rotate_left
          ·intro hJ2_8
           refine join_ (σ := Value × Value) 7 #[true, true, false, true, true, true, true, false, false, false, false, false, false] (fun s_ => [(28, s_.1), (30, s_.2)]) (fun s_ w' => (Kd.R (Kd.int .i64) 3 w' w.heap.size (fun k_ => some k_ ≠ (.slice Ao40 t288.length co40 : Value).ownBlock ∧ some k_ ≠ (.slice Ao39 t291.length co39 : Value).ownBlock ∧ some k_ ≠ (.slice Ao38 y294.length co38 : Value).ownBlock) (.slice Ao41 t285.length co41) t285) ∧ (Kd.R (Kd.int .i64) 3 w' w.heap.size (fun k_ => some k_ ≠ (.slice Ao41 t285.length co41 : Value).ownBlock ∧ some k_ ≠ (.slice Ao39 t291.length co39 : Value).ownBlock ∧ some k_ ≠ (.slice Ao38 y294.length co38 : Value).ownBlock) (.slice Ao40 t288.length co40) t288) ∧ (Kd.R (Kd.int .i64) 3 w' w.heap.size (fun k_ => some k_ ≠ (.slice Ao41 t285.length co41 : Value).ownBlock ∧ some k_ ≠ (.slice Ao40 t288.length co40 : Value).ownBlock ∧ some k_ ≠ (.slice Ao38 y294.length co38 : Value).ownBlock) (.slice Ao39 t291.length co39) t291) ∧ (Kd.R (Kd.int .i64) 3 w' w.heap.size (fun k_ => some k_ ≠ (.slice Ao41 t285.length co41 : Value).ownBlock ∧ some k_ ≠ (.slice Ao40 t288.length co40 : Value).ownBlock ∧ some k_ ≠ (.slice Ao39 t291.length co39 : Value).ownBlock) (.slice Ao38 y294.length co38) y294) ∧ (Kd.S (Kd.slice 112 k112) 81 w' w.heap.size (fun k_ => some k_ ≠ (s_.2 : Value).ownBlock) s_.1 y301) ∧ (Kd.S (Kd.slice 112 k112) 81 w' w.heap.size (fun k_ => some k_ ≠ (s_.1 : Value).ownBlock) s_.2 y304) ∧ (w'.heap[gb278]? = some (.cells #[.int .i64 a0_0, .int .i64 a0_1, .slice A0_2 l0_2.length c0_2] 28 (0, 0))) ∧ (w'.heap[gb279]? = some (.cells #[.slice A1_0 l1_0.length c1_0, .slice A1_1 l1_1.length c1_1] 32 (0, 0))) ∧ (w'.heap[gb280]? = some (.cells #[.int .i64 0, .int .i64 0, .slice none 0 0, .slice none 0 0, .slice none 0 0, .slice none 0 0, .slice none 0 0, .slice none 0 0, .slice none 0 0, .slice none 0 0, .int .i64 0] 37 (0, 0))) ∧ (w'.heap[gb297]? = some (.cells #[.int .i64 t283, .int .i64 t284, .slice Ao41 t285.length co41, .slice Ao40 t288.length co40, .slice Ao39 t291.length co39, .slice none 0 0, .slice none 0 0, .slice Ao38 y294.length co38, .slice none 0 0, .slice none 0 0, .int .i64 0] 37 (0, 0))) ∧ (Below w.heap.size w w')) ?_ ?_
           rotate_left
           ·intro hJ4_6
            refine join_ (σ := Value) 7 #[true, true, true, true, false, true, false, true, false, false, false, false, false] (fun s_ => [(26, s_), (31, .pointer (some ⟨gb297, 5, none⟩))]) (fun s_ w' => (Kd.R (Kd.int .i64) 3 w' w.heap.size (fun k_ => some k_ ≠ (.slice Ao40 t288.length co40 : Value).ownBlock ∧ some k_ ≠ (.slice Ao39 t291.length co39 : Value).ownBlock ∧ some k_ ≠ (.slice Ao38 y294.length co38 : Value).ownBlock) (.slice Ao41 t285.length co41) t285) ∧ (Kd.R (Kd.int .i64) 3 w' w.heap.size (fun k_ => some k_ ≠ (.slice Ao41 t285.length co41 : Value).ownBlock ∧ some k_ ≠ (.slice Ao39 t291.length co39 : Value).ownBlock ∧ some k_ ≠ (.slice Ao38 y294.length co38 : Value).ownBlock) (.slice Ao40 t288.length co40) t288) ∧ (Kd.R (Kd.int .i64) 3 w' w.heap.size (fun k_ => some k_ ≠ (.slice Ao41 t285.length co41 : Value).ownBlock ∧ some k_ ≠ (.slice Ao40 t288.length co40 : Value).ownBlock ∧ some k_ ≠ (.slice Ao38 y294.length co38 : Value).ownBlock) (.slice Ao39 t291.length co39) t291) ∧ (Kd.R (Kd.int .i64) 3 w' w.heap.size (fun k_ => some k_ ≠ (.slice Ao41 t285.length co41 : Value).ownBlock ∧ some k_ ≠ (.slice Ao40 t288.length co40 : Value).ownBlock ∧ some k_ ≠ (.slice Ao39 t291.length co39 : Value).ownBlock) (.slice Ao38 y294.length co38) y294) ∧ (Kd.S (Kd.slice 112 k112) 81 w' w.heap.size (fun _ => True) s_ y298) ∧ (w'.heap[gb278]? = some (.cells #[.int .i64 a0_0, .int .i64 a0_1, .slice A0_2 l0_2.length c0_2] 28 (0, 0))) ∧ (w'.heap[gb279]? = some (.cells #[.slice A1_0 l1_0.length c1_0, .slice A1_1 l1_1.length c1_1] 32 (0, 0))) ∧ (w'.heap[gb280]? = some (.cells #[.int .i64 0, .int .i64 0, .slice none 0 0, .slice none 0 0, .slice none 0 0, .slice none 0 0, .slice none 0 0, .slice none 0 0, .slice none 0 0, .slice none 0 0, .int .i64 0] 37 (0, 0))) ∧ (w'.heap[gb297]? = some (.cells #[.int .i64 t283, .int .i64 t284, .slice Ao41 t285.length co41, .slice Ao40 t288.length co40, .slice Ao39 t291.length co39, .slice none 0 0, .slice none 0 0, .slice Ao38 y294.length co38, .slice none 0 0, .slice none 0 0, .int .i64 0] 37 (0, 0))) ∧ (Below w.heap.size w w')) ?_ ?_
            rotate_left
            ·intro hJ2
             refine join_ (σ := Value) 8 #[true, true, false, true, true, true, false, false, false, false, false, false, false] (fun s_ => [(28, s_)]) (fun s_ w' => (Kd.R (Kd.int .i64) 3 w' w.heap.size (fun k_ => some k_ ≠ (.slice Ao40 t288.length co40 : Value).ownBlock ∧ some k_ ≠ (.slice Ao39 t291.length co39 : Value).ownBlock ∧ some k_ ≠ (.slice Ao38 y294.length co38 : Value).ownBlock) (.slice Ao41 t285.length co41) t285) ∧ (Kd.R (Kd.int .i64) 3 w' w.heap.size (fun k_ => some k_ ≠ (.slice Ao41 t285.length co41 : Value).ownBlock ∧ some k_ ≠ (.slice Ao39 t291.length co39 : Value).ownBlock ∧ some k_ ≠ (.slice Ao38 y294.length co38 : Value).ownBlock) (.slice Ao40 t288.length co40) t288) ∧ (Kd.R (Kd.int .i64) 3 w' w.heap.size (fun k_ => some k_ ≠ (.slice Ao41 t285.length co41 : Value).ownBlock ∧ some k_ ≠ (.slice Ao40 t288.length co40 : Value).ownBlock ∧ some k_ ≠ (.slice Ao38 y294.length co38 : Value).ownBlock) (.slice Ao39 t291.length co39) t291) ∧ (Kd.R (Kd.int .i64) 3 w' w.heap.size (fun k_ => some k_ ≠ (.slice Ao41 t285.length co41 : Value).ownBlock ∧ some k_ ≠ (.slice Ao40 t288.length co40 : Value).ownBlock ∧ some k_ ≠ (.slice Ao39 t291.length co39 : Value).ownBlock) (.slice Ao38 y294.length co38) y294) ∧ (Kd.S (Kd.slice 112 k112) 81 w' w.heap.size (fun _ => True) s_ y301) ∧ (w'.heap[gb278]? = some (.cells #[.int .i64 a0_0, .int .i64 a0_1, .slice A0_2 l0_2.length c0_2] 28 (0, 0))) ∧ (w'.heap[gb279]? = some (.cells #[.slice A1_0 l1_0.length c1_0, .slice A1_1 l1_1.length c1_1] 32 (0, 0))) ∧ (w'.heap[gb280]? = some (.cells #[.int .i64 0, .int .i64 0, .slice none 0 0, .slice none 0 0, .slice none 0 0, .slice none 0 0, .slice none 0 0, .slice none 0 0, .slice none 0 0, .slice none 0 0, .int .i64 0] 37 (0, 0))) ∧ (w'.heap[gb297]? = some (.cells #[.int .i64 t283, .int .i64 t284, .slice Ao41 t285.length co41, .slice Ao40 t288.length co40, .slice Ao39 t291.length co39, .slice none 0 0, .slice none 0 0, .slice Ao38 y294.length co38, .slice none 0 0, .slice none 0 0, .int .i64 0] 37 (0, 0))) ∧ (Below w.heap.size w w')) ?_ ?_
             rotate_left
             ·intro hJ4
              refine join_ (σ := Value) 8 #[true, true, false, true, false, true, true, false, false, false, false, false, false] (fun s_ => [(30, s_)]) (fun s_ w' => (Kd.R (Kd.int .i64) 3 w' w.heap.size (fun k_ => some k_ ≠ (.slice Ao40 t288.length co40 : Value).ownBlock ∧ some k_ ≠ (.slice Ao39 t291.length co39 : Value).ownBlock ∧ some k_ ≠ (.slice Ao38 y294.length co38 : Value).ownBlock) (.slice Ao41 t285.length co41) t285) ∧ (Kd.R (Kd.int .i64) 3 w' w.heap.size (fun k_ => some k_ ≠ (.slice Ao41 t285.length co41 : Value).ownBlock ∧ some k_ ≠ (.slice Ao39 t291.length co39 : Value).ownBlock ∧ some k_ ≠ (.slice Ao38 y294.length co38 : Value).ownBlock) (.slice Ao40 t288.length co40) t288) ∧ (Kd.R (Kd.int .i64) 3 w' w.heap.size (fun k_ => some k_ ≠ (.slice Ao41 t285.length co41 : Value).ownBlock ∧ some k_ ≠ (.slice Ao40 t288.length co40 : Value).ownBlock ∧ some k_ ≠ (.slice Ao38 y294.length co38 : Value).ownBlock) (.slice Ao39 t291.length co39) t291) ∧ (Kd.R (Kd.int .i64) 3 w' w.heap.size (fun k_ => some k_ ≠ (.slice Ao41 t285.length co41 : Value).ownBlock ∧ some k_ ≠ (.slice Ao40 t288.length co40 : Value).ownBlock ∧ some k_ ≠ (.slice Ao39 t291.length co39 : Value).ownBlock) (.slice Ao38 y294.length co38) y294) ∧ (Kd.S (Kd.slice 112 k112) 81 w' w.heap.size (fun _ => True) s_ y304) ∧ (w'.heap[gb278]? = some (.cells #[.int .i64 a0_0, .int .i64 a0_1, .slice A0_2 l0_2.length c0_2] 28 (0, 0))) ∧ (w'.heap[gb279]? = some (.cells #[.slice A1_0 l1_0.length c1_0, .slice A1_1 l1_1.length c1_1] 32 (0, 0))) ∧ (w'.heap[gb280]? = some (.cells #[.int .i64 0, .int .i64 0, .slice none 0 0, .slice none 0 0, .slice none 0 0, .slice none 0 0, .slice none 0 0, .slice none 0 0, .slice none 0 0, .slice none 0 0, .int .i64 0] 37 (0, 0))) ∧ (w'.heap[gb297]? = some (.cells #[.int .i64 t283, .int .i64 t284, .slice Ao41 t285.length co41, .slice Ao40 t288.length co40, .slice Ao39 t291.length co39, .slice none 0 0, .slice none 0 0, .slice Ao38 y294.length co38, .slice none 0 0, .slice none 0 0, .int .i64 0] 37 (0, 0))) ∧ (Below w.heap.size w w')) ?_ ?_
              rotate_left
              ·intro hJ6
               refine three_ (i := 2) (j := 4) (k := 6) (Ni := some 26) (Nj := some 28) (Nk := some 30) #[true, true, true, true, false, true, false, false, false, false, false, false, false] #[true, true, false, true, true, true, false, false, false, false, false, false, false] #[true, true, false, true, false, true, true, false, false, false, false, false, false] rfl rfl rfl rfl rfl rfl (three_of HT_.out (by kernel_rfl)) (by decide) (by decide) (by decide) (fun K hK => ?_) (fun K hK => ?_) (fun K hK => ?_)
               ·skip
                refine Kd.S_make_step (Kd.slice 112 k112) _ 81 (by rfl) (N := 26) rfl 35 _ _ rfl ji11 rfl rfl Try.underlying35 (.slice none 0 0) 24 info81 rfl (by decide) (by omega) [] (ok := fun _ => True) (okp := fun _ => True) ⟨_, rfl, Kd.R_nil _ _ _ _ _⟩ (fun _ hk => hk) trivial (of_decide_eq_true dg_) (Nat.le_trans (Nat.mul_le_mul_right _ (of_decide_eq_true dg_ : ji11.toNat ≤ 11728124029610)) (by omega)) (Below.refl _ _) (Nat.le_refl _) ?_
                intro v299 w55 ho56 hb hg_ hnew_
                clear hg_ hnew_
                (first | rw [← Ny298.out] at ho56 | (simp only [Int.reduceToNat] at ho56; rw [← Ny298.out] at ho56))
                have n0_ := Aside0.mk (Kd.R_below (ra_ HO287.out) hb)
                have n1_ := Aside0.mk (Kd.R_below (ra_ HO290.out) hb)
                have n2_ := Aside0.mk (Kd.R_below (ra_ HO293.out) hb)
                have n3_ := Aside0.mk (Kd.R_below (ra_ HO296.out) hb)
                have n4_ := Aside0.mk (Kd.S_lower ho56 (bz_ HB.out))
                have n5_ := Aside0.mk (bk_ BK278.out hb)
                have n6_ := Aside0.mk (bk_ BK279.out hb)
                have n7_ := Aside0.mk (bk_ BK280.out hb)
                have n8_ := Aside0.mk (bk_ BK297.out hb)
                have n9_ := Aside0.mk (bs_ HB.out hb)
                clear HO287 HO290 HO293 HO296 BK278 BK279 BK280 BK297 HB
                have HO287 := n0_
                have HO290 := n1_
                have HO293 := n2_
                have HO296 := n3_
                have HO300 := n4_
                have BK278 := n5_
                have BK279 := n6_
                have BK280 := n7_
                have BK297 := n8_
                have HB := n9_
                clear n0_ n1_ n2_ n3_ n4_ n5_ n6_ n7_ n8_ n9_ hb ho56
                refine hK.out _ _ trivial (fun hHeld => ?_)
                clear hK K
                refine norm_ (a' := ?_) ?_ ?_
                rotate_left
                ·show Act.put _ (some 26) _ = _
                 simp only [Act.put, List.setIfInBounds_toArray, List.set_cons_zero, List.set_cons_succ, i64_w, i32_w]
                 rfl
                refine pu_ 7 31 (bt_ 13 175) HT_ ?_
                exact norm_ (by simp only [putAll, Act.put, List.setIfInBounds_toArray, List.set_cons_zero, List.set_cons_succ]; first | done | rfl) (hJ2 (v299) _ ⟨(ra_ HO287.out), (ra_ HO290.out), (ra_ HO293.out), (ra_ HO296.out), (sa_ HO300.out), bq_ BK278.out, bq_ BK279.out, bq_ BK280.out, bq_ BK297.out, (by repeat (first | (with_reducible first | exact HB.out | apply below_alloc | apply pw_below_drewN | apply below_drew1 | refine below_set ?_ GW278.out | refine below_set ?_ GW279.out | refine below_set ?_ GW280.out | refine below_set ?_ GE297.out) | exact HB.out))⟩)
               ·skip
                refine Kd.S_make_step (Kd.slice 112 k112) _ 81 (by rfl) (N := 28) rfl 35 _ _ rfl t282 rfl rfl Try.underlying35 (.slice none 0 0) 24 info81 rfl (by decide) (by omega) [] (ok := fun _ => True) (okp := fun _ => True) ⟨_, rfl, Kd.R_nil _ _ _ _ _⟩ (fun _ hk => hk) trivial (of_decide_eq_true dg_) (Nat.le_trans (Nat.mul_le_mul_right _ (of_decide_eq_true dg_ : t282.toNat ≤ 11728124029610)) (by omega)) (Below.refl _ _) (Nat.le_refl _) ?_
                intro v302 w55 ho56 hb hg_ hnew_
                clear hg_ hnew_
                (first | rw [← Ny301.out] at ho56 | (simp only [Int.reduceToNat] at ho56; rw [← Ny301.out] at ho56))
                have n0_ := Aside0.mk (Kd.R_below (ra_ HO287.out) hb)
                have n1_ := Aside0.mk (Kd.R_below (ra_ HO290.out) hb)
                have n2_ := Aside0.mk (Kd.R_below (ra_ HO293.out) hb)
                have n3_ := Aside0.mk (Kd.R_below (ra_ HO296.out) hb)
                have n4_ := Aside0.mk (Kd.S_lower ho56 (bz_ HB.out))
                have n5_ := Aside0.mk (bk_ BK278.out hb)
                have n6_ := Aside0.mk (bk_ BK279.out hb)
                have n7_ := Aside0.mk (bk_ BK280.out hb)
                have n8_ := Aside0.mk (bk_ BK297.out hb)
                have n9_ := Aside0.mk (bs_ HB.out hb)
                clear HO287 HO290 HO293 HO296 BK278 BK279 BK280 BK297 HB
                have HO287 := n0_
                have HO290 := n1_
                have HO293 := n2_
                have HO296 := n3_
                have HO303 := n4_
                have BK278 := n5_
                have BK279 := n6_
                have BK280 := n7_
                have BK297 := n8_
                have HB := n9_
                clear n0_ n1_ n2_ n3_ n4_ n5_ n6_ n7_ n8_ n9_ hb ho56
                refine hK.out _ _ trivial (fun hHeld => ?_)
                clear hK K
                refine norm_ (a' := ?_) ?_ ?_
                rotate_left
                ·show Act.put _ (some 28) _ = _
                 simp only [Act.put, List.setIfInBounds_toArray, List.set_cons_zero, List.set_cons_succ, i64_w, i32_w]
                 rfl
                exact norm_ (by simp only [putAll, Act.put, List.setIfInBounds_toArray, List.set_cons_zero, List.set_cons_succ]; first | done | rfl) (hJ4 (v302) _ ⟨(ra_ HO287.out), (ra_ HO290.out), (ra_ HO293.out), (ra_ HO296.out), (sa_ HO303.out), bq_ BK278.out, bq_ BK279.out, bq_ BK280.out, bq_ BK297.out, (by repeat (first | (with_reducible first | exact HB.out | apply below_alloc | apply pw_below_drewN | apply below_drew1 | refine below_set ?_ GW278.out | refine below_set ?_ GW279.out | refine below_set ?_ GW280.out | refine below_set ?_ GE297.out) | exact HB.out))⟩)
               ·skip
                refine Kd.S_make_step (Kd.slice 112 k112) _ 81 (by rfl) (N := 30) rfl 35 _ _ rfl t282 rfl rfl Try.underlying35 (.slice none 0 0) 24 info81 rfl (by decide) (by omega) [] (ok := fun _ => True) (okp := fun _ => True) ⟨_, rfl, Kd.R_nil _ _ _ _ _⟩ (fun _ hk => hk) trivial (of_decide_eq_true dg_) (Nat.le_trans (Nat.mul_le_mul_right _ (of_decide_eq_true dg_ : t282.toNat ≤ 11728124029610)) (by omega)) (Below.refl _ _) (Nat.le_refl _) ?_
                intro v305 w55 ho56 hb hg_ hnew_
                clear hg_ hnew_
                (first | rw [← Ny304.out] at ho56 | (simp only [Int.reduceToNat] at ho56; rw [← Ny304.out] at ho56))
                have n0_ := Aside0.mk (Kd.R_below (ra_ HO287.out) hb)
                have n1_ := Aside0.mk (Kd.R_below (ra_ HO290.out) hb)
                have n2_ := Aside0.mk (Kd.R_below (ra_ HO293.out) hb)
                have n3_ := Aside0.mk (Kd.R_below (ra_ HO296.out) hb)
                have n4_ := Aside0.mk (Kd.S_lower ho56 (bz_ HB.out))
                have n5_ := Aside0.mk (bk_ BK278.out hb)
                have n6_ := Aside0.mk (bk_ BK279.out hb)
                have n7_ := Aside0.mk (bk_ BK280.out hb)
                have n8_ := Aside0.mk (bk_ BK297.out hb)
                have n9_ := Aside0.mk (bs_ HB.out hb)
                clear HO287 HO290 HO293 HO296 BK278 BK279 BK280 BK297 HB
                have HO287 := n0_
                have HO290 := n1_
                have HO293 := n2_
                have HO296 := n3_
                have HO306 := n4_
                have BK278 := n5_
                have BK279 := n6_
                have BK280 := n7_
                have BK297 := n8_
                have HB := n9_
                clear n0_ n1_ n2_ n3_ n4_ n5_ n6_ n7_ n8_ n9_ hb ho56
                refine hK.out _ _ trivial (fun hHeld => ?_)
                clear hK K
                refine norm_ (a' := ?_) ?_ ?_
                rotate_left
                ·show Act.put _ (some 30) _ = _
                 simp only [Act.put, List.setIfInBounds_toArray, List.set_cons_zero, List.set_cons_succ, i64_w, i32_w]
                 rfl
                exact norm_ (by simp only [putAll, Act.put, List.setIfInBounds_toArray, List.set_cons_zero, List.set_cons_succ]; first | done | rfl) (hJ6 (v305) _ ⟨(ra_ HO287.out), (ra_ HO290.out), (ra_ HO293.out), (ra_ HO296.out), (sa_ HO306.out), bq_ BK278.out, bq_ BK279.out, bq_ BK280.out, bq_ BK297.out, (by repeat (first | (with_reducible first | exact HB.out | apply below_alloc | apply pw_below_drewN | apply below_drew1 | refine below_set ?_ GW278.out | refine below_set ?_ GW279.out | refine below_set ?_ GW280.out | refine below_set ?_ GE297.out) | exact HB.out))⟩)
              ·skip
               rintro v305 w57 ⟨h0_, h1_, h2_, h3_, h4_, h5_, h6_, h7_, h8_, h9_⟩
               replace HO287 : Aside0 (Kd.R (Kd.int .i64) 3 w57 w.heap.size (fun k_ => some k_ ≠ (.slice Ao40 t288.length co40 : Value).ownBlock ∧ some k_ ≠ (.slice Ao39 t291.length co39 : Value).ownBlock ∧ some k_ ≠ (.slice Ao38 y294.length co38 : Value).ownBlock) (.slice Ao41 t285.length co41) t285) := ⟨h0_⟩
               replace HO290 : Aside0 (Kd.R (Kd.int .i64) 3 w57 w.heap.size (fun k_ => some k_ ≠ (.slice Ao41 t285.length co41 : Value).ownBlock ∧ some k_ ≠ (.slice Ao39 t291.length co39 : Value).ownBlock ∧ some k_ ≠ (.slice Ao38 y294.length co38 : Value).ownBlock) (.slice Ao40 t288.length co40) t288) := ⟨h1_⟩
               replace HO293 : Aside0 (Kd.R (Kd.int .i64) 3 w57 w.heap.size (fun k_ => some k_ ≠ (.slice Ao41 t285.length co41 : Value).ownBlock ∧ some k_ ≠ (.slice Ao40 t288.length co40 : Value).ownBlock ∧ some k_ ≠ (.slice Ao38 y294.length co38 : Value).ownBlock) (.slice Ao39 t291.length co39) t291) := ⟨h2_⟩
               replace HO296 : Aside0 (Kd.R (Kd.int .i64) 3 w57 w.heap.size (fun k_ => some k_ ≠ (.slice Ao41 t285.length co41 : Value).ownBlock ∧ some k_ ≠ (.slice Ao40 t288.length co40 : Value).ownBlock ∧ some k_ ≠ (.slice Ao39 t291.length co39 : Value).ownBlock) (.slice Ao38 y294.length co38) y294) := ⟨h3_⟩
               have HO306 : Aside0 (Kd.S (Kd.slice 112 k112) 81 w57 w.heap.size (fun _ => True) v305 y304) := ⟨h4_⟩
               replace BK278 : Aside0 (w57.heap[gb278]? = some (.cells #[.int .i64 a0_0, .int .i64 a0_1, .slice A0_2 l0_2.length c0_2] 28 (0, 0))) := ⟨h5_⟩
               replace BK279 : Aside0 (w57.heap[gb279]? = some (.cells #[.slice A1_0 l1_0.length c1_0, .slice A1_1 l1_1.length c1_1] 32 (0, 0))) := ⟨h6_⟩
               replace BK280 : Aside0 (w57.heap[gb280]? = some (.cells #[.int .i64 0, .int .i64 0, .slice none 0 0, .slice none 0 0, .slice none 0 0, .slice none 0 0, .slice none 0 0, .slice none 0 0, .slice none 0 0, .slice none 0 0, .int .i64 0] 37 (0, 0))) := ⟨h7_⟩
               replace BK297 : Aside0 (w57.heap[gb297]? = some (.cells #[.int .i64 t283, .int .i64 t284, .slice Ao41 t285.length co41, .slice Ao40 t288.length co40, .slice Ao39 t291.length co39, .slice none 0 0, .slice none 0 0, .slice Ao38 y294.length co38, .slice none 0 0, .slice none 0 0, .int .i64 0] 37 (0, 0))) := ⟨h8_⟩
               replace HB : Aside0 (Below w.heap.size w w57) := ⟨h9_⟩
               clear h0_ h1_ h2_ h3_ h4_ h5_ h6_ h7_ h8_ h9_
               have hHeld := trivial
               refine norm_ (a' := ?_) ?_ ?_
               rotate_left
               ·simp only [putAll, Act.put, List.setIfInBounds_toArray, List.set_cons_zero, List.set_cons_succ]
                rfl
               refine two_ (i := 2) (j := 4) (Ni := some 26) (Nj := some 28) #[true, true, true, true, false, true, true, false, false, false, false, false, false] #[true, true, false, true, true, true, true, false, false, false, false, false, false] rfl rfl rfl rfl (two_of HT_.out (by kernel_rfl)) (by decide) (by decide) (fun K hK => ?_) (fun K hK => ?_)
               ·skip
                refine Kd.S_make_step (Kd.slice 112 k112) _ 81 (by rfl) (N := 26) rfl 35 _ _ rfl ji11 rfl rfl Try.underlying35 (.slice none 0 0) 24 info81 rfl (by decide) (by omega) [] (ok := fun _ => True) (okp := fun _ => True) ⟨_, rfl, Kd.R_nil _ _ _ _ _⟩ (fun _ hk => hk) trivial (of_decide_eq_true dg_) (Nat.le_trans (Nat.mul_le_mul_right _ (of_decide_eq_true dg_ : ji11.toNat ≤ 11728124029610)) (by omega)) (Below.refl _ _) (Nat.le_refl _) ?_
                intro v299 w58 ho59 hb hg_ hnew_
                clear hg_ hnew_
                (first | rw [← Ny298.out] at ho59 | (simp only [Int.reduceToNat] at ho59; rw [← Ny298.out] at ho59))
                have n0_ := Aside0.mk (Kd.R_below (ra_ HO287.out) hb)
                have n1_ := Aside0.mk (Kd.R_below (ra_ HO290.out) hb)
                have n2_ := Aside0.mk (Kd.R_below (ra_ HO293.out) hb)
                have n3_ := Aside0.mk (Kd.R_below (ra_ HO296.out) hb)
                have n4_ := Aside0.mk (Kd.S_elder' (sa_ HO306.out) (Kd.S_base ho59) hb)
                have n5_ := Aside0.mk (Kd.S_lower (Kd.S_new' ho59 (sl_ HO306.out)) (bz_ HB.out))
                have n6_ := Aside0.mk (bk_ BK278.out hb)
                have n7_ := Aside0.mk (bk_ BK279.out hb)
                have n8_ := Aside0.mk (bk_ BK280.out hb)
                have n9_ := Aside0.mk (bk_ BK297.out hb)
                have n10_ := Aside0.mk (bs_ HB.out hb)
                clear HO287 HO290 HO293 HO296 HO306 BK278 BK279 BK280 BK297 HB
                have HO287 := n0_
                have HO290 := n1_
                have HO293 := n2_
                have HO296 := n3_
                have HO306 := n4_
                have HO300 := n5_
                have BK278 := n6_
                have BK279 := n7_
                have BK280 := n8_
                have BK297 := n9_
                have HB := n10_
                clear n0_ n1_ n2_ n3_ n4_ n5_ n6_ n7_ n8_ n9_ n10_ hb ho59
                refine hK.out _ _ trivial (fun hHeld => ?_)
                clear hK K
                refine norm_ (a' := ?_) ?_ ?_
                rotate_left
                ·show Act.put _ (some 26) _ = _
                 simp only [Act.put, List.setIfInBounds_toArray, List.set_cons_zero, List.set_cons_succ, i64_w, i32_w]
                 rfl
                refine pu_ 7 31 (bt_ 13 239) HT_ ?_
                exact norm_ (by simp only [putAll, Act.put, List.setIfInBounds_toArray, List.set_cons_zero, List.set_cons_succ]; first | done | rfl) (hJ2_6 (v299, v305) _ ⟨(ra_ HO287.out), (ra_ HO290.out), (ra_ HO293.out), (ra_ HO296.out), (by (with_reducible repeat (first | apply Kd.S_alloc | apply Kd.S_drewN | apply Kd.S_drew)); exact Kd.S_mono HO300.out (fun _ hk => hk.2)), (by (with_reducible repeat (first | apply Kd.S_alloc | apply Kd.S_drewN | apply Kd.S_drew)); exact Kd.S_mono HO306.out (fun _ hk => hk.2)), bq_ BK278.out, bq_ BK279.out, bq_ BK280.out, bq_ BK297.out, (by repeat (first | (with_reducible first | exact HB.out | apply below_alloc | apply pw_below_drewN | apply below_drew1 | refine below_set ?_ GW278.out | refine below_set ?_ GW279.out | refine below_set ?_ GW280.out | refine below_set ?_ GE297.out) | exact HB.out))⟩)
               ·skip
                refine Kd.S_make_step (Kd.slice 112 k112) _ 81 (by rfl) (N := 28) rfl 35 _ _ rfl t282 rfl rfl Try.underlying35 (.slice none 0 0) 24 info81 rfl (by decide) (by omega) [] (ok := fun _ => True) (okp := fun _ => True) ⟨_, rfl, Kd.R_nil _ _ _ _ _⟩ (fun _ hk => hk) trivial (of_decide_eq_true dg_) (Nat.le_trans (Nat.mul_le_mul_right _ (of_decide_eq_true dg_ : t282.toNat ≤ 11728124029610)) (by omega)) (Below.refl _ _) (Nat.le_refl _) ?_
                intro v302 w58 ho59 hb hg_ hnew_
                clear hg_ hnew_
                (first | rw [← Ny301.out] at ho59 | (simp only [Int.reduceToNat] at ho59; rw [← Ny301.out] at ho59))
                have n0_ := Aside0.mk (Kd.R_below (ra_ HO287.out) hb)
                have n1_ := Aside0.mk (Kd.R_below (ra_ HO290.out) hb)
                have n2_ := Aside0.mk (Kd.R_below (ra_ HO293.out) hb)
                have n3_ := Aside0.mk (Kd.R_below (ra_ HO296.out) hb)
                have n4_ := Aside0.mk (Kd.S_elder' (sa_ HO306.out) (Kd.S_base ho59) hb)
                have n5_ := Aside0.mk (Kd.S_lower (Kd.S_new' ho59 (sl_ HO306.out)) (bz_ HB.out))
                have n6_ := Aside0.mk (bk_ BK278.out hb)
                have n7_ := Aside0.mk (bk_ BK279.out hb)
                have n8_ := Aside0.mk (bk_ BK280.out hb)
                have n9_ := Aside0.mk (bk_ BK297.out hb)
                have n10_ := Aside0.mk (bs_ HB.out hb)
                clear HO287 HO290 HO293 HO296 HO306 BK278 BK279 BK280 BK297 HB
                have HO287 := n0_
                have HO290 := n1_
                have HO293 := n2_
                have HO296 := n3_
                have HO306 := n4_
                have HO303 := n5_
                have BK278 := n6_
                have BK279 := n7_
                have BK280 := n8_
                have BK297 := n9_
                have HB := n10_
                clear n0_ n1_ n2_ n3_ n4_ n5_ n6_ n7_ n8_ n9_ n10_ hb ho59
                refine hK.out _ _ trivial (fun hHeld => ?_)
                clear hK K
                refine norm_ (a' := ?_) ?_ ?_
                rotate_left
                ·show Act.put _ (some 28) _ = _
                 simp only [Act.put, List.setIfInBounds_toArray, List.set_cons_zero, List.set_cons_succ, i64_w, i32_w]
                 rfl
                exact norm_ (by simp only [putAll, Act.put, List.setIfInBounds_toArray, List.set_cons_zero, List.set_cons_succ]; first | done | rfl) (hJ4_6 (v302, v305) _ ⟨(ra_ HO287.out), (ra_ HO290.out), (ra_ HO293.out), (ra_ HO296.out), (by (with_reducible repeat (first | apply Kd.S_alloc | apply Kd.S_drewN | apply Kd.S_drew)); exact Kd.S_mono HO303.out (fun _ hk => hk.2)), (by (with_reducible repeat (first | apply Kd.S_alloc | apply Kd.S_drewN | apply Kd.S_drew)); exact Kd.S_mono HO306.out (fun _ hk => hk.2)), bq_ BK278.out, bq_ BK279.out, bq_ BK280.out, bq_ BK297.out, (by repeat (first | (with_reducible first | exact HB.out | apply below_alloc | apply pw_below_drewN | apply below_drew1 | refine below_set ?_ GW278.out | refine below_set ?_ GW279.out | refine below_set ?_ GW280.out | refine below_set ?_ GE297.out) | exact HB.out))⟩)
             ·skip
              rintro v302 w57 ⟨h0_, h1_, h2_, h3_, h4_, h5_, h6_, h7_, h8_, h9_⟩
              replace HO287 : Aside0 (Kd.R (Kd.int .i64) 3 w57 w.heap.size (fun k_ => some k_ ≠ (.slice Ao40 t288.length co40 : Value).ownBlock ∧ some k_ ≠ (.slice Ao39 t291.length co39 : Value).ownBlock ∧ some k_ ≠ (.slice Ao38 y294.length co38 : Value).ownBlock) (.slice Ao41 t285.length co41) t285) := ⟨h0_⟩
              replace HO290 : Aside0 (Kd.R (Kd.int .i64) 3 w57 w.heap.size (fun k_ => some k_ ≠ (.slice Ao41 t285.length co41 : Value).ownBlock ∧ some k_ ≠ (.slice Ao39 t291.length co39 : Value).ownBlock ∧ some k_ ≠ (.slice Ao38 y294.length co38 : Value).ownBlock) (.slice Ao40 t288.length co40) t288) := ⟨h1_⟩
              replace HO293 : Aside0 (Kd.R (Kd.int .i64) 3 w57 w.heap.size (fun k_ => some k_ ≠ (.slice Ao41 t285.length co41 : Value).ownBlock ∧ some k_ ≠ (.slice Ao40 t288.length co40 : Value).ownBlock ∧ some k_ ≠ (.slice Ao38 y294.length co38 : Value).ownBlock) (.slice Ao39 t291.length co39) t291) := ⟨h2_⟩
              replace HO296 : Aside0 (Kd.R (Kd.int .i64) 3 w57 w.heap.size (fun k_ => some k_ ≠ (.slice Ao41 t285.length co41 : Value).ownBlock ∧ some k_ ≠ (.slice Ao40 t288.length co40 : Value).ownBlock ∧ some k_ ≠ (.slice Ao39 t291.length co39 : Value).ownBlock) (.slice Ao38 y294.length co38) y294) := ⟨h3_⟩
              have HO303 : Aside0 (Kd.S (Kd.slice 112 k112) 81 w57 w.heap.size (fun _ => True) v302 y301) := ⟨h4_⟩
              replace BK278 : Aside0 (w57.heap[gb278]? = some (.cells #[.int .i64 a0_0, .int .i64 a0_1, .slice A0_2 l0_2.length c0_2] 28 (0, 0))) := ⟨h5_⟩
              replace BK279 : Aside0 (w57.heap[gb279]? = some (.cells #[.slice A1_0 l1_0.length c1_0, .slice A1_1 l1_1.length c1_1] 32 (0, 0))) := ⟨h6_⟩
              replace BK280 : Aside0 (w57.heap[gb280]? = some (.cells #[.int .i64 0, .int .i64 0, .slice none 0 0, .slice none 0 0, .slice none 0 0, .slice none 0 0, .slice none 0 0, .slice none 0 0, .slice none 0 0, .slice none 0 0, .int .i64 0] 37 (0, 0))) := ⟨h7_⟩
              replace BK297 : Aside0 (w57.heap[gb297]? = some (.cells #[.int .i64 t283, .int .i64 t284, .slice Ao41 t285.length co41, .slice Ao40 t288.length co40, .slice Ao39 t291.length co39, .slice none 0 0, .slice none 0 0, .slice Ao38 y294.length co38, .slice none 0 0, .slice none 0 0, .int .i64 0] 37 (0, 0))) := ⟨h8_⟩
              replace HB : Aside0 (Below w.heap.size w w57) := ⟨h9_⟩
              clear h0_ h1_ h2_ h3_ h4_ h5_ h6_ h7_ h8_ h9_
              have hHeld := trivial
              refine norm_ (a' := ?_) ?_ ?_
              rotate_left
              ·simp only [putAll, Act.put, List.setIfInBounds_toArray, List.set_cons_zero, List.set_cons_succ]
               rfl
              refine two_ (i := 2) (j := 6) (Ni := some 26) (Nj := some 30) #[true, true, true, true, true, true, false, false, false, false, false, false, false] #[true, true, false, true, true, true, true, false, false, false, false, false, false] rfl rfl rfl rfl (two_of HT_.out (by kernel_rfl)) (by decide) (by decide) (fun K hK => ?_) (fun K hK => ?_)
              ·skip
               refine Kd.S_make_step (Kd.slice 112 k112) _ 81 (by rfl) (N := 26) rfl 35 _ _ rfl ji11 rfl rfl Try.underlying35 (.slice none 0 0) 24 info81 rfl (by decide) (by omega) [] (ok := fun _ => True) (okp := fun _ => True) ⟨_, rfl, Kd.R_nil _ _ _ _ _⟩ (fun _ hk => hk) trivial (of_decide_eq_true dg_) (Nat.le_trans (Nat.mul_le_mul_right _ (of_decide_eq_true dg_ : ji11.toNat ≤ 11728124029610)) (by omega)) (Below.refl _ _) (Nat.le_refl _) ?_
               intro v299 w58 ho59 hb hg_ hnew_
               clear hg_ hnew_
               (first | rw [← Ny298.out] at ho59 | (simp only [Int.reduceToNat] at ho59; rw [← Ny298.out] at ho59))
               have n0_ := Aside0.mk (Kd.R_below (ra_ HO287.out) hb)
               have n1_ := Aside0.mk (Kd.R_below (ra_ HO290.out) hb)
               have n2_ := Aside0.mk (Kd.R_below (ra_ HO293.out) hb)
               have n3_ := Aside0.mk (Kd.R_below (ra_ HO296.out) hb)
               have n4_ := Aside0.mk (Kd.S_elder' (sa_ HO303.out) (Kd.S_base ho59) hb)
               have n5_ := Aside0.mk (Kd.S_lower (Kd.S_new' ho59 (sl_ HO303.out)) (bz_ HB.out))
               have n6_ := Aside0.mk (bk_ BK278.out hb)
               have n7_ := Aside0.mk (bk_ BK279.out hb)
               have n8_ := Aside0.mk (bk_ BK280.out hb)
               have n9_ := Aside0.mk (bk_ BK297.out hb)
               have n10_ := Aside0.mk (bs_ HB.out hb)
               clear HO287 HO290 HO293 HO296 HO303 BK278 BK279 BK280 BK297 HB
               have HO287 := n0_
               have HO290 := n1_
               have HO293 := n2_
               have HO296 := n3_
               have HO303 := n4_
               have HO300 := n5_
               have BK278 := n6_
               have BK279 := n7_
               have BK280 := n8_
               have BK297 := n9_
               have HB := n10_
               clear n0_ n1_ n2_ n3_ n4_ n5_ n6_ n7_ n8_ n9_ n10_ hb ho59
               refine hK.out _ _ trivial (fun hHeld => ?_)
               clear hK K
               refine norm_ (a' := ?_) ?_ ?_
               rotate_left
               ·show Act.put _ (some 26) _ = _
                simp only [Act.put, List.setIfInBounds_toArray, List.set_cons_zero, List.set_cons_succ, i64_w, i32_w]
                rfl
               refine pu_ 7 31 (bt_ 13 191) HT_ ?_
               exact norm_ (by simp only [putAll, Act.put, List.setIfInBounds_toArray, List.set_cons_zero, List.set_cons_succ]; first | done | rfl) (hJ2_4 (v299, v302) _ ⟨(ra_ HO287.out), (ra_ HO290.out), (ra_ HO293.out), (ra_ HO296.out), (by (with_reducible repeat (first | apply Kd.S_alloc | apply Kd.S_drewN | apply Kd.S_drew)); exact Kd.S_mono HO300.out (fun _ hk => hk.2)), (by (with_reducible repeat (first | apply Kd.S_alloc | apply Kd.S_drewN | apply Kd.S_drew)); exact Kd.S_mono HO303.out (fun _ hk => hk.2)), bq_ BK278.out, bq_ BK279.out, bq_ BK280.out, bq_ BK297.out, (by repeat (first | (with_reducible first | exact HB.out | apply below_alloc | apply pw_below_drewN | apply below_drew1 | refine below_set ?_ GW278.out | refine below_set ?_ GW279.out | refine below_set ?_ GW280.out | refine below_set ?_ GE297.out) | exact HB.out))⟩)
              ·skip
               refine Kd.S_make_step (Kd.slice 112 k112) _ 81 (by rfl) (N := 30) rfl 35 _ _ rfl t282 rfl rfl Try.underlying35 (.slice none 0 0) 24 info81 rfl (by decide) (by omega) [] (ok := fun _ => True) (okp := fun _ => True) ⟨_, rfl, Kd.R_nil _ _ _ _ _⟩ (fun _ hk => hk) trivial (of_decide_eq_true dg_) (Nat.le_trans (Nat.mul_le_mul_right _ (of_decide_eq_true dg_ : t282.toNat ≤ 11728124029610)) (by omega)) (Below.refl _ _) (Nat.le_refl _) ?_
               intro v305 w58 ho59 hb hg_ hnew_
               clear hg_ hnew_
               (first | rw [← Ny304.out] at ho59 | (simp only [Int.reduceToNat] at ho59; rw [← Ny304.out] at ho59))
               have n0_ := Aside0.mk (Kd.R_below (ra_ HO287.out) hb)
               have n1_ := Aside0.mk (Kd.R_below (ra_ HO290.out) hb)
               have n2_ := Aside0.mk (Kd.R_below (ra_ HO293.out) hb)
               have n3_ := Aside0.mk (Kd.R_below (ra_ HO296.out) hb)
               have n4_ := Aside0.mk (Kd.S_elder' (sa_ HO303.out) (Kd.S_base ho59) hb)
               have n5_ := Aside0.mk (Kd.S_lower (Kd.S_new' ho59 (sl_ HO303.out)) (bz_ HB.out))
               have n6_ := Aside0.mk (bk_ BK278.out hb)
               have n7_ := Aside0.mk (bk_ BK279.out hb)
               have n8_ := Aside0.mk (bk_ BK280.out hb)
               have n9_ := Aside0.mk (bk_ BK297.out hb)
               have n10_ := Aside0.mk (bs_ HB.out hb)
               clear HO287 HO290 HO293 HO296 HO303 BK278 BK279 BK280 BK297 HB
               have HO287 := n0_
               have HO290 := n1_
               have HO293 := n2_
               have HO296 := n3_
               have HO303 := n4_
               have HO306 := n5_
               have BK278 := n6_
               have BK279 := n7_
               have BK280 := n8_
               have BK297 := n9_
               have HB := n10_
               clear n0_ n1_ n2_ n3_ n4_ n5_ n6_ n7_ n8_ n9_ n10_ hb ho59
               refine hK.out _ _ trivial (fun hHeld => ?_)
               clear hK K
               refine norm_ (a' := ?_) ?_ ?_
               rotate_left
               ·show Act.put _ (some 30) _ = _
                simp only [Act.put, List.setIfInBounds_toArray, List.set_cons_zero, List.set_cons_succ, i64_w, i32_w]
                rfl
               exact norm_ (by simp only [putAll, Act.put, List.setIfInBounds_toArray, List.set_cons_zero, List.set_cons_succ]; first | done | rfl) (hJ4_6 (v302, v305) _ ⟨(ra_ HO287.out), (ra_ HO290.out), (ra_ HO293.out), (ra_ HO296.out), (by (with_reducible repeat (first | apply Kd.S_alloc | apply Kd.S_drewN | apply Kd.S_drew)); exact Kd.S_mono HO303.out (fun _ hk => hk.2)), (by (with_reducible repeat (first | apply Kd.S_alloc | apply Kd.S_drewN | apply Kd.S_drew)); exact Kd.S_mono HO306.out (fun _ hk => hk.2)), bq_ BK278.out, bq_ BK279.out, bq_ BK280.out, bq_ BK297.out, (by repeat (first | (with_reducible first | exact HB.out | apply below_alloc | apply pw_below_drewN | apply below_drew1 | refine below_set ?_ GW278.out | refine below_set ?_ GW279.out | refine below_set ?_ GW280.out | refine below_set ?_ GE297.out) | exact HB.out))⟩)
            ·skip
             rintro v299 w57 ⟨h0_, h1_, h2_, h3_, h4_, h5_, h6_, h7_, h8_, h9_⟩
             replace HO287 : Aside0 (Kd.R (Kd.int .i64) 3 w57 w.heap.size (fun k_ => some k_ ≠ (.slice Ao40 t288.length co40 : Value).ownBlock ∧ some k_ ≠ (.slice Ao39 t291.length co39 : Value).ownBlock ∧ some k_ ≠ (.slice Ao38 y294.length co38 : Value).ownBlock) (.slice Ao41 t285.length co41) t285) := ⟨h0_⟩
             replace HO290 : Aside0 (Kd.R (Kd.int .i64) 3 w57 w.heap.size (fun k_ => some k_ ≠ (.slice Ao41 t285.length co41 : Value).ownBlock ∧ some k_ ≠ (.slice Ao39 t291.length co39 : Value).ownBlock ∧ some k_ ≠ (.slice Ao38 y294.length co38 : Value).ownBlock) (.slice Ao40 t288.length co40) t288) := ⟨h1_⟩
             replace HO293 : Aside0 (Kd.R (Kd.int .i64) 3 w57 w.heap.size (fun k_ => some k_ ≠ (.slice Ao41 t285.length co41 : Value).ownBlock ∧ some k_ ≠ (.slice Ao40 t288.length co40 : Value).ownBlock ∧ some k_ ≠ (.slice Ao38 y294.length co38 : Value).ownBlock) (.slice Ao39 t291.length co39) t291) := ⟨h2_⟩
             replace HO296 : Aside0 (Kd.R (Kd.int .i64) 3 w57 w.heap.size (fun k_ => some k_ ≠ (.slice Ao41 t285.length co41 : Value).ownBlock ∧ some k_ ≠ (.slice Ao40 t288.length co40 : Value).ownBlock ∧ some k_ ≠ (.slice Ao39 t291.length co39 : Value).ownBlock) (.slice Ao38 y294.length co38) y294) := ⟨h3_⟩
             have HO300 : Aside0 (Kd.S (Kd.slice 112 k112) 81 w57 w.heap.size (fun _ => True) v299 y298) := ⟨h4_⟩
             replace BK278 : Aside0 (w57.heap[gb278]? = some (.cells #[.int .i64 a0_0, .int .i64 a0_1, .slice A0_2 l0_2.length c0_2] 28 (0, 0))) := ⟨h5_⟩
             replace BK279 : Aside0 (w57.heap[gb279]? = some (.cells #[.slice A1_0 l1_0.length c1_0, .slice A1_1 l1_1.length c1_1] 32 (0, 0))) := ⟨h6_⟩
             replace BK280 : Aside0 (w57.heap[gb280]? = some (.cells #[.int .i64 0, .int .i64 0, .slice none 0 0, .slice none 0 0, .slice none 0 0, .slice none 0 0, .slice none 0 0, .slice none 0 0, .slice none 0 0, .slice none 0 0, .int .i64 0] 37 (0, 0))) := ⟨h7_⟩
             replace BK297 : Aside0 (w57.heap[gb297]? = some (.cells #[.int .i64 t283, .int .i64 t284, .slice Ao41 t285.length co41, .slice Ao40 t288.length co40, .slice Ao39 t291.length co39, .slice none 0 0, .slice none 0 0, .slice Ao38 y294.length co38, .slice none 0 0, .slice none 0 0, .int .i64 0] 37 (0, 0))) := ⟨h8_⟩
             replace HB : Aside0 (Below w.heap.size w w57) := ⟨h9_⟩
             clear h0_ h1_ h2_ h3_ h4_ h5_ h6_ h7_ h8_ h9_
             have hHeld := trivial
             refine norm_ (a' := ?_) ?_ ?_
             rotate_left
             ·simp only [putAll, Act.put, List.setIfInBounds_toArray, List.set_cons_zero, List.set_cons_succ]
              rfl
             refine three_ (i := 4) (j := 6) (k := 8) (Ni := some 28) (Nj := some 30) (Nk := none) #[true, true, true, true, true, true, false, true, false, false, false, false, false] #[true, true, true, true, false, true, true, true, false, false, false, false, false] #[true, true, true, true, false, true, false, true, true, false, false, false, false] rfl rfl rfl rfl rfl rfl (three_of HT_.out (by kernel_rfl)) (by decide) (by decide) (by decide) (fun K hK => ?_) (fun K hK => ?_) (fun K hK => ?_)
             ·skip
              refine Kd.S_make_step (Kd.slice 112 k112) _ 81 (by rfl) (N := 28) rfl 35 _ _ rfl t282 rfl rfl Try.underlying35 (.slice none 0 0) 24 info81 rfl (by decide) (by omega) [] (ok := fun _ => True) (okp := fun _ => True) ⟨_, rfl, Kd.R_nil _ _ _ _ _⟩ (fun _ hk => hk) trivial (of_decide_eq_true dg_) (Nat.le_trans (Nat.mul_le_mul_right _ (of_decide_eq_true dg_ : t282.toNat ≤ 11728124029610)) (by omega)) (Below.refl _ _) (Nat.le_refl _) ?_
              intro v302 w58 ho59 hb hg_ hnew_
              clear hg_ hnew_
              (first | rw [← Ny301.out] at ho59 | (simp only [Int.reduceToNat] at ho59; rw [← Ny301.out] at ho59))
              have n0_ := Aside0.mk (Kd.R_below (ra_ HO287.out) hb)
              have n1_ := Aside0.mk (Kd.R_below (ra_ HO290.out) hb)
              have n2_ := Aside0.mk (Kd.R_below (ra_ HO293.out) hb)
              have n3_ := Aside0.mk (Kd.R_below (ra_ HO296.out) hb)
              have n4_ := Aside0.mk (Kd.S_elder' (sa_ HO300.out) (Kd.S_base ho59) hb)
              have n5_ := Aside0.mk (Kd.S_lower (Kd.S_new' ho59 (sl_ HO300.out)) (bz_ HB.out))
              have n6_ := Aside0.mk (bk_ BK278.out hb)
              have n7_ := Aside0.mk (bk_ BK279.out hb)
              have n8_ := Aside0.mk (bk_ BK280.out hb)
              have n9_ := Aside0.mk (bk_ BK297.out hb)
              have n10_ := Aside0.mk (bs_ HB.out hb)
              clear HO287 HO290 HO293 HO296 HO300 BK278 BK279 BK280 BK297 HB
              have HO287 := n0_
              have HO290 := n1_
              have HO293 := n2_
              have HO296 := n3_
              have HO300 := n4_
              have HO303 := n5_
              have BK278 := n6_
              have BK279 := n7_
              have BK280 := n8_
              have BK297 := n9_
              have HB := n10_
              clear n0_ n1_ n2_ n3_ n4_ n5_ n6_ n7_ n8_ n9_ n10_ hb ho59
              refine hK.out _ _ trivial (fun hHeld => ?_)
              clear hK K
              refine norm_ (a' := ?_) ?_ ?_
              rotate_left
              ·show Act.put _ (some 28) _ = _
               simp only [Act.put, List.setIfInBounds_toArray, List.set_cons_zero, List.set_cons_succ, i64_w, i32_w]
               rfl
              exact norm_ (by simp only [putAll, Act.put, List.setIfInBounds_toArray, List.set_cons_zero, List.set_cons_succ]; first | done | rfl) (hJ2_4 (v299, v302) _ ⟨(ra_ HO287.out), (ra_ HO290.out), (ra_ HO293.out), (ra_ HO296.out), (by (with_reducible repeat (first | apply Kd.S_alloc | apply Kd.S_drewN | apply Kd.S_drew)); exact Kd.S_mono HO300.out (fun _ hk => hk.2)), (by (with_reducible repeat (first | apply Kd.S_alloc | apply Kd.S_drewN | apply Kd.S_drew)); exact Kd.S_mono HO303.out (fun _ hk => hk.2)), bq_ BK278.out, bq_ BK279.out, bq_ BK280.out, bq_ BK297.out, (by repeat (first | (with_reducible first | exact HB.out | apply below_alloc | apply pw_below_drewN | apply below_drew1 | refine below_set ?_ GW278.out | refine below_set ?_ GW279.out | refine below_set ?_ GW280.out | refine below_set ?_ GE297.out) | exact HB.out))⟩)
             ·skip
              refine Kd.S_make_step (Kd.slice 112 k112) _ 81 (by rfl) (N := 30) rfl 35 _ _ rfl t282 rfl rfl Try.underlying35 (.slice none 0 0) 24 info81 rfl (by decide) (by omega) [] (ok := fun _ => True) (okp := fun _ => True) ⟨_, rfl, Kd.R_nil _ _ _ _ _⟩ (fun _ hk => hk) trivial (of_decide_eq_true dg_) (Nat.le_trans (Nat.mul_le_mul_right _ (of_decide_eq_true dg_ : t282.toNat ≤ 11728124029610)) (by omega)) (Below.refl _ _) (Nat.le_refl _) ?_
              intro v305 w58 ho59 hb hg_ hnew_
              clear hg_ hnew_
              (first | rw [← Ny304.out] at ho59 | (simp only [Int.reduceToNat] at ho59; rw [← Ny304.out] at ho59))
              have n0_ := Aside0.mk (Kd.R_below (ra_ HO287.out) hb)
              have n1_ := Aside0.mk (Kd.R_below (ra_ HO290.out) hb)
              have n2_ := Aside0.mk (Kd.R_below (ra_ HO293.out) hb)
              have n3_ := Aside0.mk (Kd.R_below (ra_ HO296.out) hb)
              have n4_ := Aside0.mk (Kd.S_elder' (sa_ HO300.out) (Kd.S_base ho59) hb)
              have n5_ := Aside0.mk (Kd.S_lower (Kd.S_new' ho59 (sl_ HO300.out)) (bz_ HB.out))
              have n6_ := Aside0.mk (bk_ BK278.out hb)
              have n7_ := Aside0.mk (bk_ BK279.out hb)
              have n8_ := Aside0.mk (bk_ BK280.out hb)
              have n9_ := Aside0.mk (bk_ BK297.out hb)
              have n10_ := Aside0.mk (bs_ HB.out hb)
              clear HO287 HO290 HO293 HO296 HO300 BK278 BK279 BK280 BK297 HB
              have HO287 := n0_
              have HO290 := n1_
              have HO293 := n2_
              have HO296 := n3_
              have HO300 := n4_
              have HO306 := n5_
              have BK278 := n6_
              have BK279 := n7_
              have BK280 := n8_
              have BK297 := n9_
              have HB := n10_
              clear n0_ n1_ n2_ n3_ n4_ n5_ n6_ n7_ n8_ n9_ n10_ hb ho59
              refine hK.out _ _ trivial (fun hHeld => ?_)
              clear hK K
              refine norm_ (a' := ?_) ?_ ?_
              rotate_left
              ·show Act.put _ (some 30) _ = _
               simp only [Act.put, List.setIfInBounds_toArray, List.set_cons_zero, List.set_cons_succ, i64_w, i32_w]
               rfl
              exact norm_ (by simp only [putAll, Act.put, List.setIfInBounds_toArray, List.set_cons_zero, List.set_cons_succ]; first | done | rfl) (hJ2_6 (v299, v305) _ ⟨(ra_ HO287.out), (ra_ HO290.out), (ra_ HO293.out), (ra_ HO296.out), (by (with_reducible repeat (first | apply Kd.S_alloc | apply Kd.S_drewN | apply Kd.S_drew)); exact Kd.S_mono HO300.out (fun _ hk => hk.2)), (by (with_reducible repeat (first | apply Kd.S_alloc | apply Kd.S_drewN | apply Kd.S_drew)); exact Kd.S_mono HO306.out (fun _ hk => hk.2)), bq_ BK278.out, bq_ BK279.out, bq_ BK280.out, bq_ BK297.out, (by repeat (first | (with_reducible first | exact HB.out | apply below_alloc | apply pw_below_drewN | apply below_drew1 | refine below_set ?_ GW278.out | refine below_set ?_ GW279.out | refine below_set ?_ GW280.out | refine below_set ?_ GE297.out) | exact HB.out))⟩)
             ·skip
              obtain ⟨Ao58, co58, eo58⟩ := Kd.S_slice HO300.out
              (first | subst eo58 | (injection eo58 with f1_ f2_ f3_; have f4_ := f1_.symm; have f5_ := f3_.symm; clear f1_ f2_ f3_; subst f4_; subst f5_))
              have hs59 : w57.cell? ⟨gb297, 5, none⟩ = some (.slice none 0 0) := (blk_cell BK297.out 5).trans rfl
              have hfs59 := blk_frozen BK297.out 5
              have hns59_0 := NB278_297.out
              have hns59_1 := NB279_297.out
              have hns59_2 := NB280_297.out
              have hms59_0 := NB297_278.out
              have hms59_1 := NB297_279.out
              have hms59_2 := NB297_280.out
              refine skip_ (w1 := ?_) (by rfl) rfl ?_ ?_
              rotate_left
              ·go_simp
               rfl
              refine hK.out _ _ trivial (fun hHeld => ?_)
              clear hK K
              exact norm_ (by simp only [putAll, Act.put, List.setIfInBounds_toArray, List.set_cons_zero, List.set_cons_succ]; first | done | rfl) (hJ2_8 (.slice Ao58 y298.length co58) _ ⟨(rm_ (Kd.R_types HO287.out BK297.out (by decide)) (fun _ hk => ⟨hk.1.1, ⟨hk.1.2.1, hk.1.2.2⟩⟩)), (rm_ (Kd.R_types HO290.out BK297.out (by decide)) (fun _ hk => ⟨hk.1.1, ⟨hk.1.2.1, hk.1.2.2⟩⟩)), (rm_ (Kd.R_types HO293.out BK297.out (by decide)) (fun _ hk => ⟨hk.1.1, ⟨hk.1.2.1, hk.1.2.2⟩⟩)), (rm_ (Kd.R_types HO296.out BK297.out (by decide)) (fun _ hk => ⟨hk.1.1, ⟨hk.1.2.1, hk.1.2.2⟩⟩)), (sm_ (Kd.S_types HO300.out BK297.out (by decide)) (fun _ hk => trivial)), (by (with_reducible repeat (first | refine blk_drewN ?_ _ | refine blk_drew ?_ | refine blk_alloc ?_ _)); refine blk_far ?_ NB278_297.out _; (with_reducible repeat (first | refine blk_drewN ?_ _ | refine blk_drew ?_ | refine blk_alloc ?_ _)); exact BK278.out), (by (with_reducible repeat (first | refine blk_drewN ?_ _ | refine blk_drew ?_ | refine blk_alloc ?_ _)); refine blk_far ?_ NB279_297.out _; (with_reducible repeat (first | refine blk_drewN ?_ _ | refine blk_drew ?_ | refine blk_alloc ?_ _)); exact BK279.out), (by (with_reducible repeat (first | refine blk_drewN ?_ _ | refine blk_drew ?_ | refine blk_alloc ?_ _)); refine blk_far ?_ NB280_297.out _; (with_reducible repeat (first | refine blk_drewN ?_ _ | refine blk_drew ?_ | refine blk_alloc ?_ _)); exact BK280.out), (by (with_reducible repeat (first | refine blk_drewN ?_ _ | refine blk_drew ?_ | refine blk_alloc ?_ _)); refine blk_put (cs := #[.int .i64 t283, .int .i64 t284, .slice Ao41 t285.length co41, .slice Ao40 t288.length co40, .slice Ao39 t291.length co39, .slice none 0 0, .slice none 0 0, .slice Ao38 y294.length co38, .slice none 0 0, .slice none 0 0, .int .i64 0]) ?_ 5 _ rfl; (with_reducible repeat (first | refine blk_drewN ?_ _ | refine blk_drew ?_ | refine blk_alloc ?_ _)); exact BK297.out), (by repeat (first | (with_reducible first | exact HB.out | apply below_alloc | apply pw_below_drewN | apply below_drew1 | refine below_set ?_ GW278.out | refine below_set ?_ GW279.out | refine below_set ?_ GW280.out | refine below_set ?_ GE297.out) | exact HB.out))⟩)
           ·skip
            rintro ⟨v302, v305⟩ w59 ⟨h0_, h1_, h2_, h3_, h4_, h5_, h6_, h7_, h8_, h9_, h10_⟩
            replace HO287 : Aside0 (Kd.R (Kd.int .i64) 3 w59 w.heap.size (fun k_ => some k_ ≠ (.slice Ao40 t288.length co40 : Value).ownBlock ∧ some k_ ≠ (.slice Ao39 t291.length co39 : Value).ownBlock ∧ some k_ ≠ (.slice Ao38 y294.length co38 : Value).ownBlock) (.slice Ao41 t285.length co41) t285) := ⟨h0_⟩
            replace HO290 : Aside0 (Kd.R (Kd.int .i64) 3 w59 w.heap.size (fun k_ => some k_ ≠ (.slice Ao41 t285.length co41 : Value).ownBlock ∧ some k_ ≠ (.slice Ao39 t291.length co39 : Value).ownBlock ∧ some k_ ≠ (.slice Ao38 y294.length co38 : Value).ownBlock) (.slice Ao40 t288.length co40) t288) := ⟨h1_⟩
            replace HO293 : Aside0 (Kd.R (Kd.int .i64) 3 w59 w.heap.size (fun k_ => some k_ ≠ (.slice Ao41 t285.length co41 : Value).ownBlock ∧ some k_ ≠ (.slice Ao40 t288.length co40 : Value).ownBlock ∧ some k_ ≠ (.slice Ao38 y294.length co38 : Value).ownBlock) (.slice Ao39 t291.length co39) t291) := ⟨h2_⟩
            replace HO296 : Aside0 (Kd.R (Kd.int .i64) 3 w59 w.heap.size (fun k_ => some k_ ≠ (.slice Ao41 t285.length co41 : Value).ownBlock ∧ some k_ ≠ (.slice Ao40 t288.length co40 : Value).ownBlock ∧ some k_ ≠ (.slice Ao39 t291.length co39 : Value).ownBlock) (.slice Ao38 y294.length co38) y294) := ⟨h3_⟩
            have HO303 : Aside0 (Kd.S (Kd.slice 112 k112) 81 w59 w.heap.size (fun k_ => some k_ ≠ (v305 : Value).ownBlock) v302 y301) := ⟨h4_⟩
            have HO306 : Aside0 (Kd.S (Kd.slice 112 k112) 81 w59 w.heap.size (fun k_ => some k_ ≠ (v302 : Value).ownBlock) v305 y304) := ⟨h5_⟩
            replace BK278 : Aside0 (w59.heap[gb278]? = some (.cells #[.int .i64 a0_0, .int .i64 a0_1, .slice A0_2 l0_2.length c0_2] 28 (0, 0))) := ⟨h6_⟩
            replace BK279 : Aside0 (w59.heap[gb279]? = some (.cells #[.slice A1_0 l1_0.length c1_0, .slice A1_1 l1_1.length c1_1] 32 (0, 0))) := ⟨h7_⟩
            replace BK280 : Aside0 (w59.heap[gb280]? = some (.cells #[.int .i64 0, .int .i64 0, .slice none 0 0, .slice none 0 0, .slice none 0 0, .slice none 0 0, .slice none 0 0, .slice none 0 0, .slice none 0 0, .slice none 0 0, .int .i64 0] 37 (0, 0))) := ⟨h8_⟩
            replace BK297 : Aside0 (w59.heap[gb297]? = some (.cells #[.int .i64 t283, .int .i64 t284, .slice Ao41 t285.length co41, .slice Ao40 t288.length co40, .slice Ao39 t291.length co39, .slice none 0 0, .slice none 0 0, .slice Ao38 y294.length co38, .slice none 0 0, .slice none 0 0, .int .i64 0] 37 (0, 0))) := ⟨h9_⟩
            replace HB : Aside0 (Below w.heap.size w w59) := ⟨h10_⟩
            clear h0_ h1_ h2_ h3_ h4_ h5_ h6_ h7_ h8_ h9_ h10_
            have hHeld := trivial
            refine norm_ (a' := ?_) ?_ ?_
            rotate_left
            ·simp only [putAll, Act.put, List.setIfInBounds_toArray, List.set_cons_zero, List.set_cons_succ]
             rfl
            refine one_ (i := 2) (N := some 26) (bt_ 13 127) rfl rfl (one_of HT_.out (by kernel_rfl)) (by decide) (fun K hK => ?_)
            refine Kd.S_make_step (Kd.slice 112 k112) _ 81 (by rfl) (N := 26) rfl 35 _ _ rfl ji11 rfl rfl Try.underlying35 (.slice none 0 0) 24 info81 rfl (by decide) (by omega) [] (ok := fun _ => True) (okp := fun _ => True) ⟨_, rfl, Kd.R_nil _ _ _ _ _⟩ (fun _ hk => hk) trivial (of_decide_eq_true dg_) (Nat.le_trans (Nat.mul_le_mul_right _ (of_decide_eq_true dg_ : ji11.toNat ≤ 11728124029610)) (by omega)) (Below.refl _ _) (Nat.le_refl _) ?_
            intro v299 w60 ho61 hb hg_ hnew_
            clear hg_ hnew_
            (first | rw [← Ny298.out] at ho61 | (simp only [Int.reduceToNat] at ho61; rw [← Ny298.out] at ho61))
            have n0_ := Aside0.mk (Kd.R_below (ra_ HO287.out) hb)
            have n1_ := Aside0.mk (Kd.R_below (ra_ HO290.out) hb)
            have n2_ := Aside0.mk (Kd.R_below (ra_ HO293.out) hb)
            have n3_ := Aside0.mk (Kd.R_below (ra_ HO296.out) hb)
            have n4_ := Aside0.mk (Kd.S_elder' (sa_ HO303.out) (Kd.S_base ho61) hb)
            have n5_ := Aside0.mk (Kd.S_elder' (sa_ HO306.out) (Kd.S_base ho61) hb)
            have n6_ := Aside0.mk (Kd.S_lower (Kd.S_new' (Kd.S_new' ho61 (sl_ HO303.out)) (sl_ HO306.out)) (bz_ HB.out))
            have n7_ := Aside0.mk (bk_ BK278.out hb)
            have n8_ := Aside0.mk (bk_ BK279.out hb)
            have n9_ := Aside0.mk (bk_ BK280.out hb)
            have n10_ := Aside0.mk (bk_ BK297.out hb)
            have n11_ := Aside0.mk (bs_ HB.out hb)
            clear HO287 HO290 HO293 HO296 HO303 HO306 BK278 BK279 BK280 BK297 HB
            have HO287 := n0_
            have HO290 := n1_
            have HO293 := n2_
            have HO296 := n3_
            have HO303 := n4_
            have HO306 := n5_
            have HO300 := n6_
            have BK278 := n7_
            have BK279 := n8_
            have BK280 := n9_
            have BK297 := n10_
            have HB := n11_
            clear n0_ n1_ n2_ n3_ n4_ n5_ n6_ n7_ n8_ n9_ n10_ n11_ hb ho61
            refine hK.out _ _ trivial (fun hHeld => ?_)
            clear hK K
            refine norm_ (a' := ?_) ?_ ?_
            rotate_left
            ·show Act.put _ (some 26) _ = _
             simp only [Act.put, List.setIfInBounds_toArray, List.set_cons_zero, List.set_cons_succ, i64_w, i32_w]
             rfl
            refine pu_ 7 31 (bt_ 13 255) HT_ ?_
            exact norm_ (by simp only [putAll, Act.put, List.setIfInBounds_toArray, List.set_cons_zero, List.set_cons_succ]; first | done | rfl) (hJ2_4_6 (v299, v302, v305) _ ⟨(ra_ HO287.out), (ra_ HO290.out), (ra_ HO293.out), (ra_ HO296.out), (by (with_reducible repeat (first | apply Kd.S_alloc | apply Kd.S_drewN | apply Kd.S_drew)); exact Kd.S_mono HO300.out (fun _ hk => ⟨hk.1.2, hk.2⟩)), (by (with_reducible repeat (first | apply Kd.S_alloc | apply Kd.S_drewN | apply Kd.S_drew)); exact Kd.S_mono HO303.out (fun _ hk => ⟨hk.2, hk.1⟩)), (by (with_reducible repeat (first | apply Kd.S_alloc | apply Kd.S_drewN | apply Kd.S_drew)); exact Kd.S_mono HO306.out (fun _ hk => ⟨hk.2, hk.1⟩)), bq_ BK278.out, bq_ BK279.out, bq_ BK280.out, bq_ BK297.out, (by repeat (first | (with_reducible first | exact HB.out | apply below_alloc | apply pw_below_drewN | apply below_drew1 | refine below_set ?_ GW278.out | refine below_set ?_ GW279.out | refine below_set ?_ GW280.out | refine below_set ?_ GE297.out) | exact HB.out))⟩)
          ·skip
           rintro v299 w59 ⟨h0_, h1_, h2_, h3_, h4_, h5_, h6_, h7_, h8_, h9_⟩
           replace HO287 : Aside0 (Kd.R (Kd.int .i64) 3 w59 w.heap.size (fun k_ => some k_ ≠ (.slice Ao40 t288.length co40 : Value).ownBlock ∧ some k_ ≠ (.slice Ao39 t291.length co39 : Value).ownBlock ∧ some k_ ≠ (.slice Ao38 y294.length co38 : Value).ownBlock) (.slice Ao41 t285.length co41) t285) := ⟨h0_⟩
           replace HO290 : Aside0 (Kd.R (Kd.int .i64) 3 w59 w.heap.size (fun k_ => some k_ ≠ (.slice Ao41 t285.length co41 : Value).ownBlock ∧ some k_ ≠ (.slice Ao39 t291.length co39 : Value).ownBlock ∧ some k_ ≠ (.slice Ao38 y294.length co38 : Value).ownBlock) (.slice Ao40 t288.length co40) t288) := ⟨h1_⟩
           replace HO293 : Aside0 (Kd.R (Kd.int .i64) 3 w59 w.heap.size (fun k_ => some k_ ≠ (.slice Ao41 t285.length co41 : Value).ownBlock ∧ some k_ ≠ (.slice Ao40 t288.length co40 : Value).ownBlock ∧ some k_ ≠ (.slice Ao38 y294.length co38 : Value).ownBlock) (.slice Ao39 t291.length co39) t291) := ⟨h2_⟩
           replace HO296 : Aside0 (Kd.R (Kd.int .i64) 3 w59 w.heap.size (fun k_ => some k_ ≠ (.slice Ao41 t285.length co41 : Value).ownBlock ∧ some k_ ≠ (.slice Ao40 t288.length co40 : Value).ownBlock ∧ some k_ ≠ (.slice Ao39 t291.length co39 : Value).ownBlock) (.slice Ao38 y294.length co38) y294) := ⟨h3_⟩
           have HO300 : Aside0 (Kd.S (Kd.slice 112 k112) 81 w59 w.heap.size (fun _ => True) v299 y298) := ⟨h4_⟩
           replace BK278 : Aside0 (w59.heap[gb278]? = some (.cells #[.int .i64 a0_0, .int .i64 a0_1, .slice A0_2 l0_2.length c0_2] 28 (0, 0))) := ⟨h5_⟩
           replace BK279 : Aside0 (w59.heap[gb279]? = some (.cells #[.slice A1_0 l1_0.length c1_0, .slice A1_1 l1_1.length c1_1] 32 (0, 0))) := ⟨h6_⟩
           replace BK280 : Aside0 (w59.heap[gb280]? = some (.cells #[.int .i64 0, .int .i64 0, .slice none 0 0, .slice none 0 0, .slice none 0 0, .slice none 0 0, .slice none 0 0, .slice none 0 0, .slice none 0 0, .slice none 0 0, .int .i64 0] 37 (0, 0))) := ⟨h7_⟩
           replace BK297 : Aside0 (w59.heap[gb297]? = some (.cells #[.int .i64 t283, .int .i64 t284, .slice Ao41 t285.length co41, .slice Ao40 t288.length co40, .slice Ao39 t291.length co39, v299, .slice none 0 0, .slice Ao38 y294.length co38, .slice none 0 0, .slice none 0 0, .int .i64 0] 37 (0, 0))) := ⟨h8_⟩
           replace HB : Aside0 (Below w.heap.size w w59) := ⟨h9_⟩
           clear h0_ h1_ h2_ h3_ h4_ h5_ h6_ h7_ h8_ h9_
           have hHeld := trivial
           refine norm_ (a' := ?_) ?_ ?_
           rotate_left
           ·simp only [putAll, Act.put, List.setIfInBounds_toArray, List.set_cons_zero, List.set_cons_succ]
            rfl
           refine two_ (i := 4) (j := 6) (Ni := some 28) (Nj := some 30) #[true, true, true, true, true, true, false, true, true, false, false, false, false] #[true, true, true, true, false, true, true, true, true, false, false, false, false] rfl rfl rfl rfl (two_of HT_.out (by kernel_rfl)) (by decide) (by decide) (fun K hK => ?_) (fun K hK => ?_)
           ·skip
            refine Kd.S_make_step (Kd.slice 112 k112) _ 81 (by rfl) (N := 28) rfl 35 _ _ rfl t282 rfl rfl Try.underlying35 (.slice none 0 0) 24 info81 rfl (by decide) (by omega) [] (ok := fun _ => True) (okp := fun _ => True) ⟨_, rfl, Kd.R_nil _ _ _ _ _⟩ (fun _ hk => hk) trivial (of_decide_eq_true dg_) (Nat.le_trans (Nat.mul_le_mul_right _ (of_decide_eq_true dg_ : t282.toNat ≤ 11728124029610)) (by omega)) (Below.refl _ _) (Nat.le_refl _) ?_
            intro v302 w60 ho61 hb hg_ hnew_
            clear hg_ hnew_
            (first | rw [← Ny301.out] at ho61 | (simp only [Int.reduceToNat] at ho61; rw [← Ny301.out] at ho61))
            have n0_ := Aside0.mk (Kd.R_below (ra_ HO287.out) hb)
            have n1_ := Aside0.mk (Kd.R_below (ra_ HO290.out) hb)
            have n2_ := Aside0.mk (Kd.R_below (ra_ HO293.out) hb)
            have n3_ := Aside0.mk (Kd.R_below (ra_ HO296.out) hb)
            have n4_ := Aside0.mk (Kd.S_elder' (sa_ HO300.out) (Kd.S_base ho61) hb)
            have n5_ := Aside0.mk (Kd.S_lower (Kd.S_new' ho61 (sl_ HO300.out)) (bz_ HB.out))
            have n6_ := Aside0.mk (bk_ BK278.out hb)
            have n7_ := Aside0.mk (bk_ BK279.out hb)
            have n8_ := Aside0.mk (bk_ BK280.out hb)
            have n9_ := Aside0.mk (bk_ BK297.out hb)
            have n10_ := Aside0.mk (bs_ HB.out hb)
            clear HO287 HO290 HO293 HO296 HO300 BK278 BK279 BK280 BK297 HB
            have HO287 := n0_
            have HO290 := n1_
            have HO293 := n2_
            have HO296 := n3_
            have HO300 := n4_
            have HO303 := n5_
            have BK278 := n6_
            have BK279 := n7_
            have BK280 := n8_
            have BK297 := n9_
            have HB := n10_
            clear n0_ n1_ n2_ n3_ n4_ n5_ n6_ n7_ n8_ n9_ n10_ hb ho61
            refine hK.out _ _ trivial (fun hHeld => ?_)
            clear hK K
            refine norm_ (a' := ?_) ?_ ?_
            rotate_left
            ·show Act.put _ (some 28) _ = _
             simp only [Act.put, List.setIfInBounds_toArray, List.set_cons_zero, List.set_cons_succ, i64_w, i32_w]
             rfl
            refine pu_ 9 32 (bt_ 13 959) HT_ ?_
            exact norm_ (by simp only [putAll, Act.put, List.setIfInBounds_toArray, List.set_cons_zero, List.set_cons_succ]; first | done | rfl) (hJ2_4_8 (v299, v302) _ ⟨(ra_ HO287.out), (ra_ HO290.out), (ra_ HO293.out), (ra_ HO296.out), (by (with_reducible repeat (first | apply Kd.S_alloc | apply Kd.S_drewN | apply Kd.S_drew)); exact Kd.S_mono HO300.out (fun _ hk => hk.2)), (by (with_reducible repeat (first | apply Kd.S_alloc | apply Kd.S_drewN | apply Kd.S_drew)); exact Kd.S_mono HO303.out (fun _ hk => hk.2)), bq_ BK278.out, bq_ BK279.out, bq_ BK280.out, bq_ BK297.out, (by repeat (first | (with_reducible first | exact HB.out | apply below_alloc | apply pw_below_drewN | apply below_drew1 | refine below_set ?_ GW278.out | refine below_set ?_ GW279.out | refine below_set ?_ GW280.out | refine below_set ?_ GE297.out) | exact HB.out))⟩)
           ·skip
            refine Kd.S_make_step (Kd.slice 112 k112) _ 81 (by rfl) (N := 30) rfl 35 _ _ rfl t282 rfl rfl Try.underlying35 (.slice none 0 0) 24 info81 rfl (by decide) (by omega) [] (ok := fun _ => True) (okp := fun _ => True) ⟨_, rfl, Kd.R_nil _ _ _ _ _⟩ (fun _ hk => hk) trivial (of_decide_eq_true dg_) (Nat.le_trans (Nat.mul_le_mul_right _ (of_decide_eq_true dg_ : t282.toNat ≤ 11728124029610)) (by omega)) (Below.refl _ _) (Nat.le_refl _) ?_
            intro v305 w60 ho61 hb hg_ hnew_
            clear hg_ hnew_
            (first | rw [← Ny304.out] at ho61 | (simp only [Int.reduceToNat] at ho61; rw [← Ny304.out] at ho61))
            have n0_ := Aside0.mk (Kd.R_below (ra_ HO287.out) hb)
            have n1_ := Aside0.mk (Kd.R_below (ra_ HO290.out) hb)
            have n2_ := Aside0.mk (Kd.R_below (ra_ HO293.out) hb)
            have n3_ := Aside0.mk (Kd.R_below (ra_ HO296.out) hb)
            have n4_ := Aside0.mk (Kd.S_elder' (sa_ HO300.out) (Kd.S_base ho61) hb)
            have n5_ := Aside0.mk (Kd.S_lower (Kd.S_new' ho61 (sl_ HO300.out)) (bz_ HB.out))
            have n6_ := Aside0.mk (bk_ BK278.out hb)
            have n7_ := Aside0.mk (bk_ BK279.out hb)
            have n8_ := Aside0.mk (bk_ BK280.out hb)
            have n9_ := Aside0.mk (bk_ BK297.out hb)
            have n10_ := Aside0.mk (bs_ HB.out hb)
            clear HO287 HO290 HO293 HO296 HO300 BK278 BK279 BK280 BK297 HB
            have HO287 := n0_
            have HO290 := n1_
            have HO293 := n2_
            have HO296 := n3_
            have HO300 := n4_
            have HO306 := n5_
            have BK278 := n6_
            have BK279 := n7_
            have BK280 := n8_
            have BK297 := n9_
            have HB := n10_
            clear n0_ n1_ n2_ n3_ n4_ n5_ n6_ n7_ n8_ n9_ n10_ hb ho61
            refine hK.out _ _ trivial (fun hHeld => ?_)
            clear hK K
            refine norm_ (a' := ?_) ?_ ?_
            rotate_left
            ·show Act.put _ (some 30) _ = _
             simp only [Act.put, List.setIfInBounds_toArray, List.set_cons_zero, List.set_cons_succ, i64_w, i32_w]
             rfl
            exact norm_ (by simp only [putAll, Act.put, List.setIfInBounds_toArray, List.set_cons_zero, List.set_cons_succ]; first | done | rfl) (hJ2_6_8 (v299, v305) _ ⟨(ra_ HO287.out), (ra_ HO290.out), (ra_ HO293.out), (ra_ HO296.out), (by (with_reducible repeat (first | apply Kd.S_alloc | apply Kd.S_drewN | apply Kd.S_drew)); exact Kd.S_mono HO300.out (fun _ hk => hk.2)), (by (with_reducible repeat (first | apply Kd.S_alloc | apply Kd.S_drewN | apply Kd.S_drew)); exact Kd.S_mono HO306.out (fun _ hk => hk.2)), bq_ BK278.out, bq_ BK279.out, bq_ BK280.out, bq_ BK297.out, (by repeat (first | (with_reducible first | exact HB.out | apply below_alloc | apply pw_below_drewN | apply below_drew1 | refine below_set ?_ GW278.out | refine below_set ?_ GW279.out | refine below_set ?_ GW280.out | refine below_set ?_ GE297.out) | exact HB.out))⟩)
         ·skip
          rintro ⟨v299, v305⟩ w59 ⟨h0_, h1_, h2_, h3_, h4_, h5_, h6_, h7_, h8_, h9_, h10_⟩
          replace HO287 : Aside0 (Kd.R (Kd.int .i64) 3 w59 w.heap.size (fun k_ => some k_ ≠ (.slice Ao40 t288.length co40 : Value).ownBlock ∧ some k_ ≠ (.slice Ao39 t291.length co39 : Value).ownBlock ∧ some k_ ≠ (.slice Ao38 y294.length co38 : Value).ownBlock) (.slice Ao41 t285.length co41) t285) := ⟨h0_⟩
          replace HO290 : Aside0 (Kd.R (Kd.int .i64) 3 w59 w.heap.size (fun k_ => some k_ ≠ (.slice Ao41 t285.length co41 : Value).ownBlock ∧ some k_ ≠ (.slice Ao39 t291.length co39 : Value).ownBlock ∧ some k_ ≠ (.slice Ao38 y294.length co38 : Value).ownBlock) (.slice Ao40 t288.length co40) t288) := ⟨h1_⟩
          replace HO293 : Aside0 (Kd.R (Kd.int .i64) 3 w59 w.heap.size (fun k_ => some k_ ≠ (.slice Ao41 t285.length co41 : Value).ownBlock ∧ some k_ ≠ (.slice Ao40 t288.length co40 : Value).ownBlock ∧ some k_ ≠ (.slice Ao38 y294.length co38 : Value).ownBlock) (.slice Ao39 t291.length co39) t291) := ⟨h2_⟩
          replace HO296 : Aside0 (Kd.R (Kd.int .i64) 3 w59 w.heap.size (fun k_ => some k_ ≠ (.slice Ao41 t285.length co41 : Value).ownBlock ∧ some k_ ≠ (.slice Ao40 t288.length co40 : Value).ownBlock ∧ some k_ ≠ (.slice Ao39 t291.length co39 : Value).ownBlock) (.slice Ao38 y294.length co38) y294) := ⟨h3_⟩
          have HO300 : Aside0 (Kd.S (Kd.slice 112 k112) 81 w59 w.heap.size (fun k_ => some k_ ≠ (v305 : Value).ownBlock) v299 y298) := ⟨h4_⟩
          have HO306 : Aside0 (Kd.S (Kd.slice 112 k112) 81 w59 w.heap.size (fun k_ => some k_ ≠ (v299 : Value).ownBlock) v305 y304) := ⟨h5_⟩
          replace BK278 : Aside0 (w59.heap[gb278]? = some (.cells #[.int .i64 a0_0, .int .i64 a0_1, .slice A0_2 l0_2.length c0_2] 28 (0, 0))) := ⟨h6_⟩
          replace BK279 : Aside0 (w59.heap[gb279]? = some (.cells #[.slice A1_0 l1_0.length c1_0, .slice A1_1 l1_1.length c1_1] 32 (0, 0))) := ⟨h7_⟩
          replace BK280 : Aside0 (w59.heap[gb280]? = some (.cells #[.int .i64 0, .int .i64 0, .slice none 0 0, .slice none 0 0, .slice none 0 0, .slice none 0 0, .slice none 0 0, .slice none 0 0, .slice none 0 0, .slice none 0 0, .int .i64 0] 37 (0, 0))) := ⟨h8_⟩
          replace BK297 : Aside0 (w59.heap[gb297]? = some (.cells #[.int .i64 t283, .int .i64 t284, .slice Ao41 t285.length co41, .slice Ao40 t288.length co40, .slice Ao39 t291.length co39, .slice none 0 0, .slice none 0 0, .slice Ao38 y294.length co38, .slice none 0 0, .slice none 0 0, .int .i64 0] 37 (0, 0))) := ⟨h9_⟩
          replace HB : Aside0 (Below w.heap.size w w59) := ⟨h10_⟩
          clear h0_ h1_ h2_ h3_ h4_ h5_ h6_ h7_ h8_ h9_ h10_
          have hHeld := trivial
          refine norm_ (a' := ?_) ?_ ?_
          rotate_left
          ·simp only [putAll, Act.put, List.setIfInBounds_toArray, List.set_cons_zero, List.set_cons_succ]
           rfl
          refine two_ (i := 4) (j := 8) (Ni := some 28) (Nj := none) #[true, true, true, true, true, true, true, true, false, false, false, false, false] #[true, true, true, true, false, true, true, true, true, false, false, false, false] rfl rfl rfl rfl (two_of HT_.out (by kernel_rfl)) (by decide) (by decide) (fun K hK => ?_) (fun K hK => ?_)
          ·skip
           refine Kd.S_make_step (Kd.slice 112 k112) _ 81 (by rfl) (N := 28) rfl 35 _ _ rfl t282 rfl rfl Try.underlying35 (.slice none 0 0) 24 info81 rfl (by decide) (by omega) [] (ok := fun _ => True) (okp := fun _ => True) ⟨_, rfl, Kd.R_nil _ _ _ _ _⟩ (fun _ hk => hk) trivial (of_decide_eq_true dg_) (Nat.le_trans (Nat.mul_le_mul_right _ (of_decide_eq_true dg_ : t282.toNat ≤ 11728124029610)) (by omega)) (Below.refl _ _) (Nat.le_refl _) ?_
           intro v302 w60 ho61 hb hg_ hnew_
           clear hg_ hnew_
           (first | rw [← Ny301.out] at ho61 | (simp only [Int.reduceToNat] at ho61; rw [← Ny301.out] at ho61))
           have n0_ := Aside0.mk (Kd.R_below (ra_ HO287.out) hb)
           have n1_ := Aside0.mk (Kd.R_below (ra_ HO290.out) hb)
           have n2_ := Aside0.mk (Kd.R_below (ra_ HO293.out) hb)
           have n3_ := Aside0.mk (Kd.R_below (ra_ HO296.out) hb)
           have n4_ := Aside0.mk (Kd.S_elder' (sa_ HO300.out) (Kd.S_base ho61) hb)
           have n5_ := Aside0.mk (Kd.S_elder' (sa_ HO306.out) (Kd.S_base ho61) hb)
           have n6_ := Aside0.mk (Kd.S_lower (Kd.S_new' (Kd.S_new' ho61 (sl_ HO300.out)) (sl_ HO306.out)) (bz_ HB.out))
           have n7_ := Aside0.mk (bk_ BK278.out hb)
           have n8_ := Aside0.mk (bk_ BK279.out hb)
           have n9_ := Aside0.mk (bk_ BK280.out hb)
           have n10_ := Aside0.mk (bk_ BK297.out hb)
           have n11_ := Aside0.mk (bs_ HB.out hb)
           clear HO287 HO290 HO293 HO296 HO300 HO306 BK278 BK279 BK280 BK297 HB
           have HO287 := n0_
           have HO290 := n1_
           have HO293 := n2_
           have HO296 := n3_
           have HO300 := n4_
           have HO306 := n5_
           have HO303 := n6_
           have BK278 := n7_
           have BK279 := n8_
           have BK280 := n9_
           have BK297 := n10_
           have HB := n11_
           clear n0_ n1_ n2_ n3_ n4_ n5_ n6_ n7_ n8_ n9_ n10_ n11_ hb ho61
           refine hK.out _ _ trivial (fun hHeld => ?_)
           clear hK K
           refine norm_ (a' := ?_) ?_ ?_
           rotate_left
           ·show Act.put _ (some 28) _ = _
            simp only [Act.put, List.setIfInBounds_toArray, List.set_cons_zero, List.set_cons_succ, i64_w, i32_w]
            rfl
           exact norm_ (by simp only [putAll, Act.put, List.setIfInBounds_toArray, List.set_cons_zero, List.set_cons_succ]; first | done | rfl) (hJ2_4_6 (v299, v302, v305) _ ⟨(ra_ HO287.out), (ra_ HO290.out), (ra_ HO293.out), (ra_ HO296.out), (by (with_reducible repeat (first | apply Kd.S_alloc | apply Kd.S_drewN | apply Kd.S_drew)); exact Kd.S_mono HO300.out (fun _ hk => ⟨hk.2, hk.1⟩)), (by (with_reducible repeat (first | apply Kd.S_alloc | apply Kd.S_drewN | apply Kd.S_drew)); exact Kd.S_mono HO303.out (fun _ hk => ⟨hk.1.2, hk.2⟩)), (sa_ HO306.out), bq_ BK278.out, bq_ BK279.out, bq_ BK280.out, bq_ BK297.out, (by repeat (first | (with_reducible first | exact HB.out | apply below_alloc | apply pw_below_drewN | apply below_drew1 | refine below_set ?_ GW278.out | refine below_set ?_ GW279.out | refine below_set ?_ GW280.out | refine below_set ?_ GE297.out) | exact HB.out))⟩)
          ·skip
           obtain ⟨Ao60, co60, eo60⟩ := Kd.S_slice HO300.out
           (first | subst eo60 | (injection eo60 with f1_ f2_ f3_; have f4_ := f1_.symm; have f5_ := f3_.symm; clear f1_ f2_ f3_; subst f4_; subst f5_))
           have hs61 : w59.cell? ⟨gb297, 5, none⟩ = some (.slice none 0 0) := (blk_cell BK297.out 5).trans rfl
           have hfs61 := blk_frozen BK297.out 5
           have hns61_0 := NB278_297.out
           have hns61_1 := NB279_297.out
           have hns61_2 := NB280_297.out
           have hms61_0 := NB297_278.out
           have hms61_1 := NB297_279.out
           have hms61_2 := NB297_280.out
           refine skip_ (w1 := ?_) (by rfl) rfl ?_ ?_
           rotate_left
           ·go_simp
            rfl
           refine hK.out _ _ trivial (fun hHeld => ?_)
           clear hK K
           exact norm_ (by simp only [putAll, Act.put, List.setIfInBounds_toArray, List.set_cons_zero, List.set_cons_succ]; first | done | rfl) (hJ2_6_8 (.slice Ao60 y298.length co60, v305) _ ⟨(rm_ (Kd.R_types HO287.out BK297.out (by decide)) (fun _ hk => ⟨hk.1.1, ⟨hk.1.2.1, hk.1.2.2⟩⟩)), (rm_ (Kd.R_types HO290.out BK297.out (by decide)) (fun _ hk => ⟨hk.1.1, ⟨hk.1.2.1, hk.1.2.2⟩⟩)), (rm_ (Kd.R_types HO293.out BK297.out (by decide)) (fun _ hk => ⟨hk.1.1, ⟨hk.1.2.1, hk.1.2.2⟩⟩)), (rm_ (Kd.R_types HO296.out BK297.out (by decide)) (fun _ hk => ⟨hk.1.1, ⟨hk.1.2.1, hk.1.2.2⟩⟩)), (sm_ (Kd.S_types HO300.out BK297.out (by decide)) (fun _ hk => hk.1)), (sm_ (Kd.S_types HO306.out BK297.out (by decide)) (fun _ hk => hk.1)), (by (with_reducible repeat (first | refine blk_drewN ?_ _ | refine blk_drew ?_ | refine blk_alloc ?_ _)); refine blk_far ?_ NB278_297.out _; (with_reducible repeat (first | refine blk_drewN ?_ _ | refine blk_drew ?_ | refine blk_alloc ?_ _)); exact BK278.out), (by (with_reducible repeat (first | refine blk_drewN ?_ _ | refine blk_drew ?_ | refine blk_alloc ?_ _)); refine blk_far ?_ NB279_297.out _; (with_reducible repeat (first | refine blk_drewN ?_ _ | refine blk_drew ?_ | refine blk_alloc ?_ _)); exact BK279.out), (by (with_reducible repeat (first | refine blk_drewN ?_ _ | refine blk_drew ?_ | refine blk_alloc ?_ _)); refine blk_far ?_ NB280_297.out _; (with_reducible repeat (first | refine blk_drewN ?_ _ | refine blk_drew ?_ | refine blk_alloc ?_ _)); exact BK280.out), (by (with_reducible repeat (first | refine blk_drewN ?_ _ | refine blk_drew ?_ | refine blk_alloc ?_ _)); refine blk_put (cs := #[.int .i64 t283, .int .i64 t284, .slice Ao41 t285.length co41, .slice Ao40 t288.length co40, .slice Ao39 t291.length co39, .slice none 0 0, .slice none 0 0, .slice Ao38 y294.length co38, .slice none 0 0, .slice none 0 0, .int .i64 0]) ?_ 5 _ rfl; (with_reducible repeat (first | refine blk_drewN ?_ _ | refine blk_drew ?_ | refine blk_alloc ?_ _)); exact BK297.out), (by repeat (first | (with_reducible first | exact HB.out | apply below_alloc | apply pw_below_drewN | apply below_drew1 | refine below_set ?_ GW278.out | refine below_set ?_ GW279.out | refine below_set ?_ GW280.out | refine below_set ?_ GE297.out) | exact HB.out))⟩)
        ·skip
         rintro ⟨v299, v302⟩ w59 ⟨h0_, h1_, h2_, h3_, h4_, h5_, h6_, h7_, h8_, h9_, h10_⟩
         replace HO287 : Aside0 (Kd.R (Kd.int .i64) 3 w59 w.heap.size (fun k_ => some k_ ≠ (.slice Ao40 t288.length co40 : Value).ownBlock ∧ some k_ ≠ (.slice Ao39 t291.length co39 : Value).ownBlock ∧ some k_ ≠ (.slice Ao38 y294.length co38 : Value).ownBlock) (.slice Ao41 t285.length co41) t285) := ⟨h0_⟩
         replace HO290 : Aside0 (Kd.R (Kd.int .i64) 3 w59 w.heap.size (fun k_ => some k_ ≠ (.slice Ao41 t285.length co41 : Value).ownBlock ∧ some k_ ≠ (.slice Ao39 t291.length co39 : Value).ownBlock ∧ some k_ ≠ (.slice Ao38 y294.length co38 : Value).ownBlock) (.slice Ao40 t288.length co40) t288) := ⟨h1_⟩
         replace HO293 : Aside0 (Kd.R (Kd.int .i64) 3 w59 w.heap.size (fun k_ => some k_ ≠ (.slice Ao41 t285.length co41 : Value).ownBlock ∧ some k_ ≠ (.slice Ao40 t288.length co40 : Value).ownBlock ∧ some k_ ≠ (.slice Ao38 y294.length co38 : Value).ownBlock) (.slice Ao39 t291.length co39) t291) := ⟨h2_⟩
         replace HO296 : Aside0 (Kd.R (Kd.int .i64) 3 w59 w.heap.size (fun k_ => some k_ ≠ (.slice Ao41 t285.length co41 : Value).ownBlock ∧ some k_ ≠ (.slice Ao40 t288.length co40 : Value).ownBlock ∧ some k_ ≠ (.slice Ao39 t291.length co39 : Value).ownBlock) (.slice Ao38 y294.length co38) y294) := ⟨h3_⟩
         have HO300 : Aside0 (Kd.S (Kd.slice 112 k112) 81 w59 w.heap.size (fun k_ => some k_ ≠ (v302 : Value).ownBlock) v299 y298) := ⟨h4_⟩
         have HO303 : Aside0 (Kd.S (Kd.slice 112 k112) 81 w59 w.heap.size (fun k_ => some k_ ≠ (v299 : Value).ownBlock) v302 y301) := ⟨h5_⟩
         replace BK278 : Aside0 (w59.heap[gb278]? = some (.cells #[.int .i64 a0_0, .int .i64 a0_1, .slice A0_2 l0_2.length c0_2] 28 (0, 0))) := ⟨h6_⟩
         replace BK279 : Aside0 (w59.heap[gb279]? = some (.cells #[.slice A1_0 l1_0.length c1_0, .slice A1_1 l1_1.length c1_1] 32 (0, 0))) := ⟨h7_⟩
         replace BK280 : Aside0 (w59.heap[gb280]? = some (.cells #[.int .i64 0, .int .i64 0, .slice none 0 0, .slice none 0 0, .slice none 0 0, .slice none 0 0, .slice none 0 0, .slice none 0 0, .slice none 0 0, .slice none 0 0, .int .i64 0] 37 (0, 0))) := ⟨h8_⟩
         replace BK297 : Aside0 (w59.heap[gb297]? = some (.cells #[.int .i64 t283, .int .i64 t284, .slice Ao41 t285.length co41, .slice Ao40 t288.length co40, .slice Ao39 t291.length co39, .slice none 0 0, .slice none 0 0, .slice Ao38 y294.length co38, .slice none 0 0, .slice none 0 0, .int .i64 0] 37 (0, 0))) := ⟨h9_⟩
         replace HB : Aside0 (Below w.heap.size w w59) := ⟨h10_⟩
         clear h0_ h1_ h2_ h3_ h4_ h5_ h6_ h7_ h8_ h9_ h10_
         have hHeld := trivial
         refine norm_ (a' := ?_) ?_ ?_
         rotate_left
         ·simp only [putAll, Act.put, List.setIfInBounds_toArray, List.set_cons_zero, List.set_cons_succ]
          rfl
         refine two_ (i := 6) (j := 8) (Ni := some 30) (Nj := none) #[true, true, true, true, true, true, true, true, false, false, false, false, false] #[true, true, true, true, true, true, false, true, true, false, false, false, false] rfl rfl rfl rfl (two_of HT_.out (by kernel_rfl)) (by decide) (by decide) (fun K hK => ?_) (fun K hK => ?_)
         ·skip
          refine Kd.S_make_step (Kd.slice 112 k112) _ 81 (by rfl) (N := 30) rfl 35 _ _ rfl t282 rfl rfl Try.underlying35 (.slice none 0 0) 24 info81 rfl (by decide) (by omega) [] (ok := fun _ => True) (okp := fun _ => True) ⟨_, rfl, Kd.R_nil _ _ _ _ _⟩ (fun _ hk => hk) trivial (of_decide_eq_true dg_) (Nat.le_trans (Nat.mul_le_mul_right _ (of_decide_eq_true dg_ : t282.toNat ≤ 11728124029610)) (by omega)) (Below.refl _ _) (Nat.le_refl _) ?_
          intro v305 w60 ho61 hb hg_ hnew_
          clear hg_ hnew_
          (first | rw [← Ny304.out] at ho61 | (simp only [Int.reduceToNat] at ho61; rw [← Ny304.out] at ho61))
          have n0_ := Aside0.mk (Kd.R_below (ra_ HO287.out) hb)
          have n1_ := Aside0.mk (Kd.R_below (ra_ HO290.out) hb)
          have n2_ := Aside0.mk (Kd.R_below (ra_ HO293.out) hb)
          have n3_ := Aside0.mk (Kd.R_below (ra_ HO296.out) hb)
          have n4_ := Aside0.mk (Kd.S_elder' (sa_ HO300.out) (Kd.S_base ho61) hb)
          have n5_ := Aside0.mk (Kd.S_elder' (sa_ HO303.out) (Kd.S_base ho61) hb)
          have n6_ := Aside0.mk (Kd.S_lower (Kd.S_new' (Kd.S_new' ho61 (sl_ HO300.out)) (sl_ HO303.out)) (bz_ HB.out))
          have n7_ := Aside0.mk (bk_ BK278.out hb)
          have n8_ := Aside0.mk (bk_ BK279.out hb)
          have n9_ := Aside0.mk (bk_ BK280.out hb)
          have n10_ := Aside0.mk (bk_ BK297.out hb)
          have n11_ := Aside0.mk (bs_ HB.out hb)
          clear HO287 HO290 HO293 HO296 HO300 HO303 BK278 BK279 BK280 BK297 HB
          have HO287 := n0_
          have HO290 := n1_
          have HO293 := n2_
          have HO296 := n3_
          have HO300 := n4_
          have HO303 := n5_
          have HO306 := n6_
          have BK278 := n7_
          have BK279 := n8_
          have BK280 := n9_
          have BK297 := n10_
          have HB := n11_
          clear n0_ n1_ n2_ n3_ n4_ n5_ n6_ n7_ n8_ n9_ n10_ n11_ hb ho61
          refine hK.out _ _ trivial (fun hHeld => ?_)
          clear hK K
          refine norm_ (a' := ?_) ?_ ?_
          rotate_left
          ·show Act.put _ (some 30) _ = _
           simp only [Act.put, List.setIfInBounds_toArray, List.set_cons_zero, List.set_cons_succ, i64_w, i32_w]
           rfl
          exact norm_ (by simp only [putAll, Act.put, List.setIfInBounds_toArray, List.set_cons_zero, List.set_cons_succ]; first | done | rfl) (hJ2_4_6 (v299, v302, v305) _ ⟨(ra_ HO287.out), (ra_ HO290.out), (ra_ HO293.out), (ra_ HO296.out), (sa_ HO300.out), (sa_ HO303.out), (by (with_reducible repeat (first | apply Kd.S_alloc | apply Kd.S_drewN | apply Kd.S_drew)); exact Kd.S_mono HO306.out (fun _ hk => ⟨hk.1.2, hk.2⟩)), bq_ BK278.out, bq_ BK279.out, bq_ BK280.out, bq_ BK297.out, (by repeat (first | (with_reducible first | exact HB.out | apply below_alloc | apply pw_below_drewN | apply below_drew1 | refine below_set ?_ GW278.out | refine below_set ?_ GW279.out | refine below_set ?_ GW280.out | refine below_set ?_ GE297.out) | exact HB.out))⟩)
         ·skip
          obtain ⟨Ao60, co60, eo60⟩ := Kd.S_slice HO300.out
          (first | subst eo60 | (injection eo60 with f1_ f2_ f3_; have f4_ := f1_.symm; have f5_ := f3_.symm; clear f1_ f2_ f3_; subst f4_; subst f5_))
          have hs61 : w59.cell? ⟨gb297, 5, none⟩ = some (.slice none 0 0) := (blk_cell BK297.out 5).trans rfl
          have hfs61 := blk_frozen BK297.out 5
          have hns61_0 := NB278_297.out
          have hns61_1 := NB279_297.out
          have hns61_2 := NB280_297.out
          have hms61_0 := NB297_278.out
          have hms61_1 := NB297_279.out
          have hms61_2 := NB297_280.out
          refine skip_ (w1 := ?_) (by rfl) rfl ?_ ?_
          rotate_left
          ·go_simp
           rfl
          refine hK.out _ _ trivial (fun hHeld => ?_)
          clear hK K
          refine pu_ 9 32 (bt_ 13 959) HT_ ?_
          exact norm_ (by simp only [putAll, Act.put, List.setIfInBounds_toArray, List.set_cons_zero, List.set_cons_succ]; first | done | rfl) (hJ2_4_8 (.slice Ao60 y298.length co60, v302) _ ⟨(rm_ (Kd.R_types HO287.out BK297.out (by decide)) (fun _ hk => ⟨hk.1.1, ⟨hk.1.2.1, hk.1.2.2⟩⟩)), (rm_ (Kd.R_types HO290.out BK297.out (by decide)) (fun _ hk => ⟨hk.1.1, ⟨hk.1.2.1, hk.1.2.2⟩⟩)), (rm_ (Kd.R_types HO293.out BK297.out (by decide)) (fun _ hk => ⟨hk.1.1, ⟨hk.1.2.1, hk.1.2.2⟩⟩)), (rm_ (Kd.R_types HO296.out BK297.out (by decide)) (fun _ hk => ⟨hk.1.1, ⟨hk.1.2.1, hk.1.2.2⟩⟩)), (sm_ (Kd.S_types HO300.out BK297.out (by decide)) (fun _ hk => hk.1)), (sm_ (Kd.S_types HO303.out BK297.out (by decide)) (fun _ hk => hk.1)), (by (with_reducible repeat (first | refine blk_drewN ?_ _ | refine blk_drew ?_ | refine blk_alloc ?_ _)); refine blk_far ?_ NB278_297.out _; (with_reducible repeat (first | refine blk_drewN ?_ _ | refine blk_drew ?_ | refine blk_alloc ?_ _)); exact BK278.out), (by (with_reducible repeat (first | refine blk_drewN ?_ _ | refine blk_drew ?_ | refine blk_alloc ?_ _)); refine blk_far ?_ NB279_297.out _; (with_reducible repeat (first | refine blk_drewN ?_ _ | refine blk_drew ?_ | refine blk_alloc ?_ _)); exact BK279.out), (by (with_reducible repeat (first | refine blk_drewN ?_ _ | refine blk_drew ?_ | refine blk_alloc ?_ _)); refine blk_far ?_ NB280_297.out _; (with_reducible repeat (first | refine blk_drewN ?_ _ | refine blk_drew ?_ | refine blk_alloc ?_ _)); exact BK280.out), (by (with_reducible repeat (first | refine blk_drewN ?_ _ | refine blk_drew ?_ | refine blk_alloc ?_ _)); refine blk_put (cs := #[.int .i64 t283, .int .i64 t284, .slice Ao41 t285.length co41, .slice Ao40 t288.length co40, .slice Ao39 t291.length co39, .slice none 0 0, .slice none 0 0, .slice Ao38 y294.length co38, .slice none 0 0, .slice none 0 0, .int .i64 0]) ?_ 5 _ rfl; (with_reducible repeat (first | refine blk_drewN ?_ _ | refine blk_drew ?_ | refine blk_alloc ?_ _)); exact BK297.out), (by repeat (first | (with_reducible first | exact HB.out | apply below_alloc | apply pw_below_drewN | apply below_drew1 | refine below_set ?_ GW278.out | refine below_set ?_ GW279.out | refine below_set ?_ GW280.out | refine below_set ?_ GE297.out) | exact HB.out))⟩)
       ·skip
        rintro ⟨v299, v305⟩ w61 ⟨h0_, h1_, h2_, h3_, h4_, h5_, h6_, h7_, h8_, h9_, h10_⟩
        replace HO287 : Aside0 (Kd.R (Kd.int .i64) 3 w61 w.heap.size (fun k_ => some k_ ≠ (.slice Ao40 t288.length co40 : Value).ownBlock ∧ some k_ ≠ (.slice Ao39 t291.length co39 : Value).ownBlock ∧ some k_ ≠ (.slice Ao38 y294.length co38 : Value).ownBlock) (.slice Ao41 t285.length co41) t285) := ⟨h0_⟩
        replace HO290 : Aside0 (Kd.R (Kd.int .i64) 3 w61 w.heap.size (fun k_ => some k_ ≠ (.slice Ao41 t285.length co41 : Value).ownBlock ∧ some k_ ≠ (.slice Ao39 t291.length co39 : Value).ownBlock ∧ some k_ ≠ (.slice Ao38 y294.length co38 : Value).ownBlock) (.slice Ao40 t288.length co40) t288) := ⟨h1_⟩
        replace HO293 : Aside0 (Kd.R (Kd.int .i64) 3 w61 w.heap.size (fun k_ => some k_ ≠ (.slice Ao41 t285.length co41 : Value).ownBlock ∧ some k_ ≠ (.slice Ao40 t288.length co40 : Value).ownBlock ∧ some k_ ≠ (.slice Ao38 y294.length co38 : Value).ownBlock) (.slice Ao39 t291.length co39) t291) := ⟨h2_⟩
        replace HO296 : Aside0 (Kd.R (Kd.int .i64) 3 w61 w.heap.size (fun k_ => some k_ ≠ (.slice Ao41 t285.length co41 : Value).ownBlock ∧ some k_ ≠ (.slice Ao40 t288.length co40 : Value).ownBlock ∧ some k_ ≠ (.slice Ao39 t291.length co39 : Value).ownBlock) (.slice Ao38 y294.length co38) y294) := ⟨h3_⟩
        have HO300 : Aside0 (Kd.S (Kd.slice 112 k112) 81 w61 w.heap.size (fun k_ => some k_ ≠ (v305 : Value).ownBlock) v299 y298) := ⟨h4_⟩
        have HO306 : Aside0 (Kd.S (Kd.slice 112 k112) 81 w61 w.heap.size (fun k_ => some k_ ≠ (v299 : Value).ownBlock) v305 y304) := ⟨h5_⟩
        replace BK278 : Aside0 (w61.heap[gb278]? = some (.cells #[.int .i64 a0_0, .int .i64 a0_1, .slice A0_2 l0_2.length c0_2] 28 (0, 0))) := ⟨h6_⟩
        replace BK279 : Aside0 (w61.heap[gb279]? = some (.cells #[.slice A1_0 l1_0.length c1_0, .slice A1_1 l1_1.length c1_1] 32 (0, 0))) := ⟨h7_⟩
        replace BK280 : Aside0 (w61.heap[gb280]? = some (.cells #[.int .i64 0, .int .i64 0, .slice none 0 0, .slice none 0 0, .slice none 0 0, .slice none 0 0, .slice none 0 0, .slice none 0 0, .slice none 0 0, .slice none 0 0, .int .i64 0] 37 (0, 0))) := ⟨h8_⟩
        replace BK297 : Aside0 (w61.heap[gb297]? = some (.cells #[.int .i64 t283, .int .i64 t284, .slice Ao41 t285.length co41, .slice Ao40 t288.length co40, .slice Ao39 t291.length co39, v299, .slice none 0 0, .slice Ao38 y294.length co38, .slice none 0 0, .slice none 0 0, .int .i64 0] 37 (0, 0))) := ⟨h9_⟩
        replace HB : Aside0 (Below w.heap.size w w61) := ⟨h10_⟩
        clear h0_ h1_ h2_ h3_ h4_ h5_ h6_ h7_ h8_ h9_ h10_
        have hHeld := trivial
        refine norm_ (a' := ?_) ?_ ?_
        rotate_left
        ·simp only [putAll, Act.put, List.setIfInBounds_toArray, List.set_cons_zero, List.set_cons_succ]
         rfl
        refine one_ (i := 4) (N := some 28) (bt_ 13 511) rfl rfl (one_of HT_.out (by kernel_rfl)) (by decide) (fun K hK => ?_)
        refine Kd.S_make_step (Kd.slice 112 k112) _ 81 (by rfl) (N := 28) rfl 35 _ _ rfl t282 rfl rfl Try.underlying35 (.slice none 0 0) 24 info81 rfl (by decide) (by omega) [] (ok := fun _ => True) (okp := fun _ => True) ⟨_, rfl, Kd.R_nil _ _ _ _ _⟩ (fun _ hk => hk) trivial (of_decide_eq_true dg_) (Nat.le_trans (Nat.mul_le_mul_right _ (of_decide_eq_true dg_ : t282.toNat ≤ 11728124029610)) (by omega)) (Below.refl _ _) (Nat.le_refl _) ?_
        intro v302 w62 ho63 hb hg_ hnew_
        clear hg_ hnew_
        (first | rw [← Ny301.out] at ho63 | (simp only [Int.reduceToNat] at ho63; rw [← Ny301.out] at ho63))
        have n0_ := Aside0.mk (Kd.R_below (ra_ HO287.out) hb)
        have n1_ := Aside0.mk (Kd.R_below (ra_ HO290.out) hb)
        have n2_ := Aside0.mk (Kd.R_below (ra_ HO293.out) hb)
        have n3_ := Aside0.mk (Kd.R_below (ra_ HO296.out) hb)
        have n4_ := Aside0.mk (Kd.S_elder' (sa_ HO300.out) (Kd.S_base ho63) hb)
        have n5_ := Aside0.mk (Kd.S_elder' (sa_ HO306.out) (Kd.S_base ho63) hb)
        have n6_ := Aside0.mk (Kd.S_lower (Kd.S_new' (Kd.S_new' ho63 (sl_ HO300.out)) (sl_ HO306.out)) (bz_ HB.out))
        have n7_ := Aside0.mk (bk_ BK278.out hb)
        have n8_ := Aside0.mk (bk_ BK279.out hb)
        have n9_ := Aside0.mk (bk_ BK280.out hb)
        have n10_ := Aside0.mk (bk_ BK297.out hb)
        have n11_ := Aside0.mk (bs_ HB.out hb)
        clear HO287 HO290 HO293 HO296 HO300 HO306 BK278 BK279 BK280 BK297 HB
        have HO287 := n0_
        have HO290 := n1_
        have HO293 := n2_
        have HO296 := n3_
        have HO300 := n4_
        have HO306 := n5_
        have HO303 := n6_
        have BK278 := n7_
        have BK279 := n8_
        have BK280 := n9_
        have BK297 := n10_
        have HB := n11_
        clear n0_ n1_ n2_ n3_ n4_ n5_ n6_ n7_ n8_ n9_ n10_ n11_ hb ho63
        refine hK.out _ _ trivial (fun hHeld => ?_)
        clear hK K
        refine norm_ (a' := ?_) ?_ ?_
        rotate_left
        ·show Act.put _ (some 28) _ = _
         simp only [Act.put, List.setIfInBounds_toArray, List.set_cons_zero, List.set_cons_succ, i64_w, i32_w]
         rfl
        refine pu_ 9 32 (bt_ 13 1023) HT_ ?_
        exact norm_ (by simp only [putAll, Act.put, List.setIfInBounds_toArray, List.set_cons_zero, List.set_cons_succ]; first | done | rfl) (hJ2_4_6_8 (v299, v302, v305) _ ⟨(ra_ HO287.out), (ra_ HO290.out), (ra_ HO293.out), (ra_ HO296.out), (by (with_reducible repeat (first | apply Kd.S_alloc | apply Kd.S_drewN | apply Kd.S_drew)); exact Kd.S_mono HO300.out (fun _ hk => ⟨hk.2, hk.1⟩)), (by (with_reducible repeat (first | apply Kd.S_alloc | apply Kd.S_drewN | apply Kd.S_drew)); exact Kd.S_mono HO303.out (fun _ hk => ⟨hk.1.2, hk.2⟩)), (sa_ HO306.out), bq_ BK278.out, bq_ BK279.out, bq_ BK280.out, bq_ BK297.out, (by repeat (first | (with_reducible first | exact HB.out | apply below_alloc | apply pw_below_drewN | apply below_drew1 | refine below_set ?_ GW278.out | refine below_set ?_ GW279.out | refine below_set ?_ GW280.out | refine below_set ?_ GE297.out) | exact HB.out))⟩)
      ·skip
       rintro ⟨v299, v302⟩ w61 ⟨h0_, h1_, h2_, h3_, h4_, h5_, h6_, h7_, h8_, h9_, h10_⟩
       replace HO287 : Aside0 (Kd.R (Kd.int .i64) 3 w61 w.heap.size (fun k_ => some k_ ≠ (.slice Ao40 t288.length co40 : Value).ownBlock ∧ some k_ ≠ (.slice Ao39 t291.length co39 : Value).ownBlock ∧ some k_ ≠ (.slice Ao38 y294.length co38 : Value).ownBlock) (.slice Ao41 t285.length co41) t285) := ⟨h0_⟩
       replace HO290 : Aside0 (Kd.R (Kd.int .i64) 3 w61 w.heap.size (fun k_ => some k_ ≠ (.slice Ao41 t285.length co41 : Value).ownBlock ∧ some k_ ≠ (.slice Ao39 t291.length co39 : Value).ownBlock ∧ some k_ ≠ (.slice Ao38 y294.length co38 : Value).ownBlock) (.slice Ao40 t288.length co40) t288) := ⟨h1_⟩
       replace HO293 : Aside0 (Kd.R (Kd.int .i64) 3 w61 w.heap.size (fun k_ => some k_ ≠ (.slice Ao41 t285.length co41 : Value).ownBlock ∧ some k_ ≠ (.slice Ao40 t288.length co40 : Value).ownBlock ∧ some k_ ≠ (.slice Ao38 y294.length co38 : Value).ownBlock) (.slice Ao39 t291.length co39) t291) := ⟨h2_⟩
       replace HO296 : Aside0 (Kd.R (Kd.int .i64) 3 w61 w.heap.size (fun k_ => some k_ ≠ (.slice Ao41 t285.length co41 : Value).ownBlock ∧ some k_ ≠ (.slice Ao40 t288.length co40 : Value).ownBlock ∧ some k_ ≠ (.slice Ao39 t291.length co39 : Value).ownBlock) (.slice Ao38 y294.length co38) y294) := ⟨h3_⟩
       have HO300 : Aside0 (Kd.S (Kd.slice 112 k112) 81 w61 w.heap.size (fun k_ => some k_ ≠ (v302 : Value).ownBlock) v299 y298) := ⟨h4_⟩
       have HO303 : Aside0 (Kd.S (Kd.slice 112 k112) 81 w61 w.heap.size (fun k_ => some k_ ≠ (v299 : Value).ownBlock) v302 y301) := ⟨h5_⟩
       replace BK278 : Aside0 (w61.heap[gb278]? = some (.cells #[.int .i64 a0_0, .int .i64 a0_1, .slice A0_2 l0_2.length c0_2] 28 (0, 0))) := ⟨h6_⟩
       replace BK279 : Aside0 (w61.heap[gb279]? = some (.cells #[.slice A1_0 l1_0.length c1_0, .slice A1_1 l1_1.length c1_1] 32 (0, 0))) := ⟨h7_⟩
       replace BK280 : Aside0 (w61.heap[gb280]? = some (.cells #[.int .i64 0, .int .i64 0, .slice none 0 0, .slice none 0 0, .slice none 0 0, .slice none 0 0, .slice none 0 0, .slice none 0 0, .slice none 0 0, .slice none 0 0, .int .i64 0] 37 (0, 0))) := ⟨h8_⟩
       replace BK297 : Aside0 (w61.heap[gb297]? = some (.cells #[.int .i64 t283, .int .i64 t284, .slice Ao41 t285.length co41, .slice Ao40 t288.length co40, .slice Ao39 t291.length co39, v299, .slice none 0 0, .slice Ao38 y294.length co38, .slice none 0 0, .slice none 0 0, .int .i64 0] 37 (0, 0))) := ⟨h9_⟩
       replace HB : Aside0 (Below w.heap.size w w61) := ⟨h10_⟩
       clear h0_ h1_ h2_ h3_ h4_ h5_ h6_ h7_ h8_ h9_ h10_
       have hHeld := trivial
       refine norm_ (a' := ?_) ?_ ?_
       rotate_left
       ·simp only [putAll, Act.put, List.setIfInBounds_toArray, List.set_cons_zero, List.set_cons_succ]
        rfl
       refine two_ (i := 6) (j := 10) (Ni := some 30) (Nj := none) #[true, true, true, true, true, true, true, true, true, true, false, false, false] #[true, true, true, true, true, true, false, true, true, true, true, false, false] rfl rfl rfl rfl (two_of HT_.out (by kernel_rfl)) (by decide) (by decide) (fun K hK => ?_) (fun K hK => ?_)
       ·skip
        refine Kd.S_make_step (Kd.slice 112 k112) _ 81 (by rfl) (N := 30) rfl 35 _ _ rfl t282 rfl rfl Try.underlying35 (.slice none 0 0) 24 info81 rfl (by decide) (by omega) [] (ok := fun _ => True) (okp := fun _ => True) ⟨_, rfl, Kd.R_nil _ _ _ _ _⟩ (fun _ hk => hk) trivial (of_decide_eq_true dg_) (Nat.le_trans (Nat.mul_le_mul_right _ (of_decide_eq_true dg_ : t282.toNat ≤ 11728124029610)) (by omega)) (Below.refl _ _) (Nat.le_refl _) ?_
        intro v305 w62 ho63 hb hg_ hnew_
        clear hg_ hnew_
        (first | rw [← Ny304.out] at ho63 | (simp only [Int.reduceToNat] at ho63; rw [← Ny304.out] at ho63))
        have n0_ := Aside0.mk (Kd.R_below (ra_ HO287.out) hb)
        have n1_ := Aside0.mk (Kd.R_below (ra_ HO290.out) hb)
        have n2_ := Aside0.mk (Kd.R_below (ra_ HO293.out) hb)
        have n3_ := Aside0.mk (Kd.R_below (ra_ HO296.out) hb)
        have n4_ := Aside0.mk (Kd.S_elder' (sa_ HO300.out) (Kd.S_base ho63) hb)
        have n5_ := Aside0.mk (Kd.S_elder' (sa_ HO303.out) (Kd.S_base ho63) hb)
        have n6_ := Aside0.mk (Kd.S_lower (Kd.S_new' (Kd.S_new' ho63 (sl_ HO300.out)) (sl_ HO303.out)) (bz_ HB.out))
        have n7_ := Aside0.mk (bk_ BK278.out hb)
        have n8_ := Aside0.mk (bk_ BK279.out hb)
        have n9_ := Aside0.mk (bk_ BK280.out hb)
        have n10_ := Aside0.mk (bk_ BK297.out hb)
        have n11_ := Aside0.mk (bs_ HB.out hb)
        clear HO287 HO290 HO293 HO296 HO300 HO303 BK278 BK279 BK280 BK297 HB
        have HO287 := n0_
        have HO290 := n1_
        have HO293 := n2_
        have HO296 := n3_
        have HO300 := n4_
        have HO303 := n5_
        have HO306 := n6_
        have BK278 := n7_
        have BK279 := n8_
        have BK280 := n9_
        have BK297 := n10_
        have HB := n11_
        clear n0_ n1_ n2_ n3_ n4_ n5_ n6_ n7_ n8_ n9_ n10_ n11_ hb ho63
        refine hK.out _ _ trivial (fun hHeld => ?_)
        clear hK K
        refine norm_ (a' := ?_) ?_ ?_
        rotate_left
        ·show Act.put _ (some 30) _ = _
         simp only [Act.put, List.setIfInBounds_toArray, List.set_cons_zero, List.set_cons_succ, i64_w, i32_w]
         rfl
        exact norm_ (by simp only [putAll, Act.put, List.setIfInBounds_toArray, List.set_cons_zero, List.set_cons_succ]; first | done | rfl) (hJ2_4_6_8 (v299, v302, v305) _ ⟨(ra_ HO287.out), (ra_ HO290.out), (ra_ HO293.out), (ra_ HO296.out), (sa_ HO300.out), (sa_ HO303.out), (by (with_reducible repeat (first | apply Kd.S_alloc | apply Kd.S_drewN | apply Kd.S_drew)); exact Kd.S_mono HO306.out (fun _ hk => ⟨hk.1.2, hk.2⟩)), bq_ BK278.out, bq_ BK279.out, bq_ BK280.out, bq_ BK297.out, (by repeat (first | (with_reducible first | exact HB.out | apply below_alloc | apply pw_below_drewN | apply below_drew1 | refine below_set ?_ GW278.out | refine below_set ?_ GW279.out | refine below_set ?_ GW280.out | refine below_set ?_ GE297.out) | exact HB.out))⟩)
       ·skip
        obtain ⟨Ao62, co62, eo62⟩ := Kd.S_slice HO303.out
        (first | subst eo62 | (injection eo62 with f1_ f2_ f3_; have f4_ := f1_.symm; have f5_ := f3_.symm; clear f1_ f2_ f3_; subst f4_; subst f5_))
        have hs63 : w61.cell? ⟨gb297, 8, none⟩ = some (.slice none 0 0) := (blk_cell BK297.out 8).trans rfl
        have hfs63 := blk_frozen BK297.out 8
        have hns63_0 := NB278_297.out
        have hns63_1 := NB279_297.out
        have hns63_2 := NB280_297.out
        have hms63_0 := NB297_278.out
        have hms63_1 := NB297_279.out
        have hms63_2 := NB297_280.out
        refine skip_ (w1 := ?_) (by rfl) rfl ?_ ?_
        rotate_left
        ·go_simp
         rfl
        refine hK.out _ _ trivial (fun hHeld => ?_)
        clear hK K
        exact norm_ (by simp only [putAll, Act.put, List.setIfInBounds_toArray, List.set_cons_zero, List.set_cons_succ]; first | done | rfl) (hJ2_4_8_10 (v299, .slice Ao62 y301.length co62) _ ⟨(rm_ (Kd.R_types HO287.out BK297.out (by decide)) (fun _ hk => ⟨hk.1.1, ⟨hk.1.2.1, hk.1.2.2⟩⟩)), (rm_ (Kd.R_types HO290.out BK297.out (by decide)) (fun _ hk => ⟨hk.1.1, ⟨hk.1.2.1, hk.1.2.2⟩⟩)), (rm_ (Kd.R_types HO293.out BK297.out (by decide)) (fun _ hk => ⟨hk.1.1, ⟨hk.1.2.1, hk.1.2.2⟩⟩)), (rm_ (Kd.R_types HO296.out BK297.out (by decide)) (fun _ hk => ⟨hk.1.1, ⟨hk.1.2.1, hk.1.2.2⟩⟩)), (sm_ (Kd.S_types HO300.out BK297.out (by decide)) (fun _ hk => hk.1)), (sm_ (Kd.S_types HO303.out BK297.out (by decide)) (fun _ hk => hk.1)), (by (with_reducible repeat (first | refine blk_drewN ?_ _ | refine blk_drew ?_ | refine blk_alloc ?_ _)); refine blk_far ?_ NB278_297.out _; (with_reducible repeat (first | refine blk_drewN ?_ _ | refine blk_drew ?_ | refine blk_alloc ?_ _)); exact BK278.out), (by (with_reducible repeat (first | refine blk_drewN ?_ _ | refine blk_drew ?_ | refine blk_alloc ?_ _)); refine blk_far ?_ NB279_297.out _; (with_reducible repeat (first | refine blk_drewN ?_ _ | refine blk_drew ?_ | refine blk_alloc ?_ _)); exact BK279.out), (by (with_reducible repeat (first | refine blk_drewN ?_ _ | refine blk_drew ?_ | refine blk_alloc ?_ _)); refine blk_far ?_ NB280_297.out _; (with_reducible repeat (first | refine blk_drewN ?_ _ | refine blk_drew ?_ | refine blk_alloc ?_ _)); exact BK280.out), (by (with_reducible repeat (first | refine blk_drewN ?_ _ | refine blk_drew ?_ | refine blk_alloc ?_ _)); refine blk_put (cs := #[.int .i64 t283, .int .i64 t284, .slice Ao41 t285.length co41, .slice Ao40 t288.length co40, .slice Ao39 t291.length co39, v299, .slice none 0 0, .slice Ao38 y294.length co38, .slice none 0 0, .slice none 0 0, .int .i64 0]) ?_ 8 _ rfl; (with_reducible repeat (first | refine blk_drewN ?_ _ | refine blk_drew ?_ | refine blk_alloc ?_ _)); exact BK297.out), (by repeat (first | (with_reducible first | exact HB.out | apply below_alloc | apply pw_below_drewN | apply below_drew1 | refine below_set ?_ GW278.out | refine below_set ?_ GW279.out | refine below_set ?_ GW280.out | refine below_set ?_ GE297.out) | exact HB.out))⟩)
     ·skip
      rintro ⟨v299, v302, v305⟩ w61 ⟨h0_, h1_, h2_, h3_, h4_, h5_, h6_, h7_, h8_, h9_, h10_, h11_⟩
      replace HO287 : Aside0 (Kd.R (Kd.int .i64) 3 w61 w.heap.size (fun k_ => some k_ ≠ (.slice Ao40 t288.length co40 : Value).ownBlock ∧ some k_ ≠ (.slice Ao39 t291.length co39 : Value).ownBlock ∧ some k_ ≠ (.slice Ao38 y294.length co38 : Value).ownBlock) (.slice Ao41 t285.length co41) t285) := ⟨h0_⟩
      replace HO290 : Aside0 (Kd.R (Kd.int .i64) 3 w61 w.heap.size (fun k_ => some k_ ≠ (.slice Ao41 t285.length co41 : Value).ownBlock ∧ some k_ ≠ (.slice Ao39 t291.length co39 : Value).ownBlock ∧ some k_ ≠ (.slice Ao38 y294.length co38 : Value).ownBlock) (.slice Ao40 t288.length co40) t288) := ⟨h1_⟩
      replace HO293 : Aside0 (Kd.R (Kd.int .i64) 3 w61 w.heap.size (fun k_ => some k_ ≠ (.slice Ao41 t285.length co41 : Value).ownBlock ∧ some k_ ≠ (.slice Ao40 t288.length co40 : Value).ownBlock ∧ some k_ ≠ (.slice Ao38 y294.length co38 : Value).ownBlock) (.slice Ao39 t291.length co39) t291) := ⟨h2_⟩
      replace HO296 : Aside0 (Kd.R (Kd.int .i64) 3 w61 w.heap.size (fun k_ => some k_ ≠ (.slice Ao41 t285.length co41 : Value).ownBlock ∧ some k_ ≠ (.slice Ao40 t288.length co40 : Value).ownBlock ∧ some k_ ≠ (.slice Ao39 t291.length co39 : Value).ownBlock) (.slice Ao38 y294.length co38) y294) := ⟨h3_⟩
      have HO300 : Aside0 (Kd.S (Kd.slice 112 k112) 81 w61 w.heap.size (fun k_ => some k_ ≠ (v302 : Value).ownBlock ∧ some k_ ≠ (v305 : Value).ownBlock) v299 y298) := ⟨h4_⟩
      have HO303 : Aside0 (Kd.S (Kd.slice 112 k112) 81 w61 w.heap.size (fun k_ => some k_ ≠ (v299 : Value).ownBlock ∧ some k_ ≠ (v305 : Value).ownBlock) v302 y301) := ⟨h5_⟩
      have HO306 : Aside0 (Kd.S (Kd.slice 112 k112) 81 w61 w.heap.size (fun k_ => some k_ ≠ (v299 : Value).ownBlock ∧ some k_ ≠ (v302 : Value).ownBlock) v305 y304) := ⟨h6_⟩
      replace BK278 : Aside0 (w61.heap[gb278]? = some (.cells #[.int .i64 a0_0, .int .i64 a0_1, .slice A0_2 l0_2.length c0_2] 28 (0, 0))) := ⟨h7_⟩
      replace BK279 : Aside0 (w61.heap[gb279]? = some (.cells #[.slice A1_0 l1_0.length c1_0, .slice A1_1 l1_1.length c1_1] 32 (0, 0))) := ⟨h8_⟩
      replace BK280 : Aside0 (w61.heap[gb280]? = some (.cells #[.int .i64 0, .int .i64 0, .slice none 0 0, .slice none 0 0, .slice none 0 0, .slice none 0 0, .slice none 0 0, .slice none 0 0, .slice none 0 0, .slice none 0 0, .int .i64 0] 37 (0, 0))) := ⟨h9_⟩
      replace BK297 : Aside0 (w61.heap[gb297]? = some (.cells #[.int .i64 t283, .int .i64 t284, .slice Ao41 t285.length co41, .slice Ao40 t288.length co40, .slice Ao39 t291.length co39, .slice none 0 0, .slice none 0 0, .slice Ao38 y294.length co38, .slice none 0 0, .slice none 0 0, .int .i64 0] 37 (0, 0))) := ⟨h10_⟩
      replace HB : Aside0 (Below w.heap.size w w61) := ⟨h11_⟩
      clear h0_ h1_ h2_ h3_ h4_ h5_ h6_ h7_ h8_ h9_ h10_ h11_
      have hHeld := trivial
      obtain ⟨Ao62, co62, eo62⟩ := Kd.S_slice HO300.out
      (first | subst eo62 | (injection eo62 with f1_ f2_ f3_; have f4_ := f1_.symm; have f5_ := f3_.symm; clear f1_ f2_ f3_; subst f4_; subst f5_))
      refine norm_ (a' := ?_) ?_ ?_
      rotate_left
      ·simp only [putAll, Act.put, List.setIfInBounds_toArray, List.set_cons_zero, List.set_cons_succ]
       rfl
      refine one_ (i := 8) (N := none) (bt_ 13 511) rfl rfl (one_of HT_.out (by kernel_rfl)) (by decide) (fun K hK => ?_)
      have hs63 : w61.cell? ⟨gb297, 5, none⟩ = some (.slice none 0 0) := (blk_cell BK297.out 5).trans rfl
      have hfs63 := blk_frozen BK297.out 5
      have hns63_0 := NB278_297.out
      have hns63_1 := NB279_297.out
      have hns63_2 := NB280_297.out
      have hms63_0 := NB297_278.out
      have hms63_1 := NB297_279.out
      have hms63_2 := NB297_280.out
      refine skip_ (w1 := ?_) (by rfl) rfl ?_ ?_
      rotate_left
      ·go_simp
       rfl
      refine hK.out _ _ trivial (fun hHeld => ?_)
      clear hK K
      refine pu_ 9 32 (bt_ 13 1023) HT_ ?_
      exact norm_ (by simp only [putAll, Act.put, List.setIfInBounds_toArray, List.set_cons_zero, List.set_cons_succ]; first | done | rfl) (hJ2_4_6_8 (.slice Ao62 y298.length co62, v302, v305) _ ⟨(rm_ (Kd.R_types HO287.out BK297.out (by decide)) (fun _ hk => ⟨hk.1.1, ⟨hk.1.2.1, hk.1.2.2⟩⟩)), (rm_ (Kd.R_types HO290.out BK297.out (by decide)) (fun _ hk => ⟨hk.1.1, ⟨hk.1.2.1, hk.1.2.2⟩⟩)), (rm_ (Kd.R_types HO293.out BK297.out (by decide)) (fun _ hk => ⟨hk.1.1, ⟨hk.1.2.1, hk.1.2.2⟩⟩)), (rm_ (Kd.R_types HO296.out BK297.out (by decide)) (fun _ hk => ⟨hk.1.1, ⟨hk.1.2.1, hk.1.2.2⟩⟩)), (sm_ (Kd.S_types HO300.out BK297.out (by decide)) (fun _ hk => ⟨hk.1.1, hk.1.2⟩)), (sm_ (Kd.S_types HO303.out BK297.out (by decide)) (fun _ hk => ⟨hk.1.1, hk.1.2⟩)), (sm_ (Kd.S_types HO306.out BK297.out (by decide)) (fun _ hk => ⟨hk.1.1, hk.1.2⟩)), (by (with_reducible repeat (first | refine blk_drewN ?_ _ | refine blk_drew ?_ | refine blk_alloc ?_ _)); refine blk_far ?_ NB278_297.out _; (with_reducible repeat (first | refine blk_drewN ?_ _ | refine blk_drew ?_ | refine blk_alloc ?_ _)); exact BK278.out), (by (with_reducible repeat (first | refine blk_drewN ?_ _ | refine blk_drew ?_ | refine blk_alloc ?_ _)); refine blk_far ?_ NB279_297.out _; (with_reducible repeat (first | refine blk_drewN ?_ _ | refine blk_drew ?_ | refine blk_alloc ?_ _)); exact BK279.out), (by (with_reducible repeat (first | refine blk_drewN ?_ _ | refine blk_drew ?_ | refine blk_alloc ?_ _)); refine blk_far ?_ NB280_297.out _; (with_reducible repeat (first | refine blk_drewN ?_ _ | refine blk_drew ?_ | refine blk_alloc ?_ _)); exact BK280.out), (by (with_reducible repeat (first | refine blk_drewN ?_ _ | refine blk_drew ?_ | refine blk_alloc ?_ _)); refine blk_put (cs := #[.int .i64 t283, .int .i64 t284, .slice Ao41 t285.length co41, .slice Ao40 t288.length co40, .slice Ao39 t291.length co39, .slice none 0 0, .slice none 0 0, .slice Ao38 y294.length co38, .slice none 0 0, .slice none 0 0, .int .i64 0]) ?_ 5 _ rfl; (with_reducible repeat (first | refine blk_drewN ?_ _ | refine blk_drew ?_ | refine blk_alloc ?_ _)); exact BK297.out), (by repeat (first | (with_reducible first | exact HB.out | apply below_alloc | apply pw_below_drewN | apply below_drew1 | refine below_set ?_ GW278.out | refine below_set ?_ GW279.out | refine below_set ?_ GW280.out | refine below_set ?_ GE297.out) | exact HB.out))⟩)
    ·skip
     rintro ⟨v299, v302⟩ w63 ⟨h0_, h1_, h2_, h3_, h4_, h5_, h6_, h7_, h8_, h9_, h10_⟩
     replace HO287 : Aside0 (Kd.R (Kd.int .i64) 3 w63 w.heap.size (fun k_ => some k_ ≠ (.slice Ao40 t288.length co40 : Value).ownBlock ∧ some k_ ≠ (.slice Ao39 t291.length co39 : Value).ownBlock ∧ some k_ ≠ (.slice Ao38 y294.length co38 : Value).ownBlock) (.slice Ao41 t285.length co41) t285) := ⟨h0_⟩
     replace HO290 : Aside0 (Kd.R (Kd.int .i64) 3 w63 w.heap.size (fun k_ => some k_ ≠ (.slice Ao41 t285.length co41 : Value).ownBlock ∧ some k_ ≠ (.slice Ao39 t291.length co39 : Value).ownBlock ∧ some k_ ≠ (.slice Ao38 y294.length co38 : Value).ownBlock) (.slice Ao40 t288.length co40) t288) := ⟨h1_⟩
     replace HO293 : Aside0 (Kd.R (Kd.int .i64) 3 w63 w.heap.size (fun k_ => some k_ ≠ (.slice Ao41 t285.length co41 : Value).ownBlock ∧ some k_ ≠ (.slice Ao40 t288.length co40 : Value).ownBlock ∧ some k_ ≠ (.slice Ao38 y294.length co38 : Value).ownBlock) (.slice Ao39 t291.length co39) t291) := ⟨h2_⟩
     replace HO296 : Aside0 (Kd.R (Kd.int .i64) 3 w63 w.heap.size (fun k_ => some k_ ≠ (.slice Ao41 t285.length co41 : Value).ownBlock ∧ some k_ ≠ (.slice Ao40 t288.length co40 : Value).ownBlock ∧ some k_ ≠ (.slice Ao39 t291.length co39 : Value).ownBlock) (.slice Ao38 y294.length co38) y294) := ⟨h3_⟩
     have HO300 : Aside0 (Kd.S (Kd.slice 112 k112) 81 w63 w.heap.size (fun k_ => some k_ ≠ (v302 : Value).ownBlock) v299 y298) := ⟨h4_⟩
     have HO303 : Aside0 (Kd.S (Kd.slice 112 k112) 81 w63 w.heap.size (fun k_ => some k_ ≠ (v299 : Value).ownBlock) v302 y301) := ⟨h5_⟩
     replace BK278 : Aside0 (w63.heap[gb278]? = some (.cells #[.int .i64 a0_0, .int .i64 a0_1, .slice A0_2 l0_2.length c0_2] 28 (0, 0))) := ⟨h6_⟩
     replace BK279 : Aside0 (w63.heap[gb279]? = some (.cells #[.slice A1_0 l1_0.length c1_0, .slice A1_1 l1_1.length c1_1] 32 (0, 0))) := ⟨h7_⟩
     replace BK280 : Aside0 (w63.heap[gb280]? = some (.cells #[.int .i64 0, .int .i64 0, .slice none 0 0, .slice none 0 0, .slice none 0 0, .slice none 0 0, .slice none 0 0, .slice none 0 0, .slice none 0 0, .slice none 0 0, .int .i64 0] 37 (0, 0))) := ⟨h8_⟩
     replace BK297 : Aside0 (w63.heap[gb297]? = some (.cells #[.int .i64 t283, .int .i64 t284, .slice Ao41 t285.length co41, .slice Ao40 t288.length co40, .slice Ao39 t291.length co39, v299, .slice none 0 0, .slice Ao38 y294.length co38, v302, .slice none 0 0, .int .i64 0] 37 (0, 0))) := ⟨h9_⟩
     replace HB : Aside0 (Below w.heap.size w w63) := ⟨h10_⟩
     clear h0_ h1_ h2_ h3_ h4_ h5_ h6_ h7_ h8_ h9_ h10_
     have hHeld := trivial
     refine norm_ (a' := ?_) ?_ ?_
     rotate_left
     ·simp only [putAll, Act.put, List.setIfInBounds_toArray, List.set_cons_zero, List.set_cons_succ]
      rfl
     refine one_ (i := 6) (N := some 30) (bt_ 13 2047) rfl rfl (one_of HT_.out (by kernel_rfl)) (by decide) (fun K hK => ?_)
     refine Kd.S_make_step (Kd.slice 112 k112) _ 81 (by rfl) (N := 30) rfl 35 _ _ rfl t282 rfl rfl Try.underlying35 (.slice none 0 0) 24 info81 rfl (by decide) (by omega) [] (ok := fun _ => True) (okp := fun _ => True) ⟨_, rfl, Kd.R_nil _ _ _ _ _⟩ (fun _ hk => hk) trivial (of_decide_eq_true dg_) (Nat.le_trans (Nat.mul_le_mul_right _ (of_decide_eq_true dg_ : t282.toNat ≤ 11728124029610)) (by omega)) (Below.refl _ _) (Nat.le_refl _) ?_
     intro v305 w64 ho65 hb hg_ hnew_
     clear hg_ hnew_
     (first | rw [← Ny304.out] at ho65 | (simp only [Int.reduceToNat] at ho65; rw [← Ny304.out] at ho65))
     have n0_ := Aside0.mk (Kd.R_below (ra_ HO287.out) hb)
     have n1_ := Aside0.mk (Kd.R_below (ra_ HO290.out) hb)
     have n2_ := Aside0.mk (Kd.R_below (ra_ HO293.out) hb)
     have n3_ := Aside0.mk (Kd.R_below (ra_ HO296.out) hb)
     have n4_ := Aside0.mk (Kd.S_elder' (sa_ HO300.out) (Kd.S_base ho65) hb)
     have n5_ := Aside0.mk (Kd.S_elder' (sa_ HO303.out) (Kd.S_base ho65) hb)
     have n6_ := Aside0.mk (Kd.S_lower (Kd.S_new' (Kd.S_new' ho65 (sl_ HO300.out)) (sl_ HO303.out)) (bz_ HB.out))
     have n7_ := Aside0.mk (bk_ BK278.out hb)
     have n8_ := Aside0.mk (bk_ BK279.out hb)
     have n9_ := Aside0.mk (bk_ BK280.out hb)
     have n10_ := Aside0.mk (bk_ BK297.out hb)
     have n11_ := Aside0.mk (bs_ HB.out hb)
     clear HO287 HO290 HO293 HO296 HO300 HO303 BK278 BK279 BK280 BK297 HB
     have HO287 := n0_
     have HO290 := n1_
     have HO293 := n2_
     have HO296 := n3_
     have HO300 := n4_
     have HO303 := n5_
     have HO306 := n6_
     have BK278 := n7_
     have BK279 := n8_
     have BK280 := n9_
     have BK297 := n10_
     have HB := n11_
     clear n0_ n1_ n2_ n3_ n4_ n5_ n6_ n7_ n8_ n9_ n10_ n11_ hb ho65
     refine hK.out _ _ trivial (fun hHeld => ?_)
     clear hK K
     refine norm_ (a' := ?_) ?_ ?_
     rotate_left
     ·show Act.put _ (some 30) _ = _
      simp only [Act.put, List.setIfInBounds_toArray, List.set_cons_zero, List.set_cons_succ, i64_w, i32_w]
      rfl
     exact norm_ (by simp only [putAll, Act.put, List.setIfInBounds_toArray, List.set_cons_zero, List.set_cons_succ]; first | done | rfl) (hJ2_4_6_8_10 (v299, v302, v305) _ ⟨(ra_ HO287.out), (ra_ HO290.out), (ra_ HO293.out), (ra_ HO296.out), (sa_ HO300.out), (sa_ HO303.out), (by (with_reducible repeat (first | apply Kd.S_alloc | apply Kd.S_drewN | apply Kd.S_drew)); exact Kd.S_mono HO306.out (fun _ hk => ⟨hk.1.2, hk.2⟩)), bq_ BK278.out, bq_ BK279.out, bq_ BK280.out, bq_ BK297.out, (by repeat (first | (with_reducible first | exact HB.out | apply below_alloc | apply pw_below_drewN | apply below_drew1 | refine below_set ?_ GW278.out | refine below_set ?_ GW279.out | refine below_set ?_ GW280.out | refine below_set ?_ GE297.out) | exact HB.out))⟩)
   ·skip
    rintro ⟨v299, v302, v305⟩ w63 ⟨h0_, h1_, h2_, h3_, h4_, h5_, h6_, h7_, h8_, h9_, h10_, h11_⟩
    replace HO287 : Aside0 (Kd.R (Kd.int .i64) 3 w63 w.heap.size (fun k_ => some k_ ≠ (.slice Ao40 t288.length co40 : Value).ownBlock ∧ some k_ ≠ (.slice Ao39 t291.length co39 : Value).ownBlock ∧ some k_ ≠ (.slice Ao38 y294.length co38 : Value).ownBlock) (.slice Ao41 t285.length co41) t285) := ⟨h0_⟩
    replace HO290 : Aside0 (Kd.R (Kd.int .i64) 3 w63 w.heap.size (fun k_ => some k_ ≠ (.slice Ao41 t285.length co41 : Value).ownBlock ∧ some k_ ≠ (.slice Ao39 t291.length co39 : Value).ownBlock ∧ some k_ ≠ (.slice Ao38 y294.length co38 : Value).ownBlock) (.slice Ao40 t288.length co40) t288) := ⟨h1_⟩
    replace HO293 : Aside0 (Kd.R (Kd.int .i64) 3 w63 w.heap.size (fun k_ => some k_ ≠ (.slice Ao41 t285.length co41 : Value).ownBlock ∧ some k_ ≠ (.slice Ao40 t288.length co40 : Value).ownBlock ∧ some k_ ≠ (.slice Ao38 y294.length co38 : Value).ownBlock) (.slice Ao39 t291.length co39) t291) := ⟨h2_⟩
    replace HO296 : Aside0 (Kd.R (Kd.int .i64) 3 w63 w.heap.size (fun k_ => some k_ ≠ (.slice Ao41 t285.length co41 : Value).ownBlock ∧ some k_ ≠ (.slice Ao40 t288.length co40 : Value).ownBlock ∧ some k_ ≠ (.slice Ao39 t291.length co39 : Value).ownBlock) (.slice Ao38 y294.length co38) y294) := ⟨h3_⟩
    have HO300 : Aside0 (Kd.S (Kd.slice 112 k112) 81 w63 w.heap.size (fun k_ => some k_ ≠ (v302 : Value).ownBlock ∧ some k_ ≠ (v305 : Value).ownBlock) v299 y298) := ⟨h4_⟩
    have HO303 : Aside0 (Kd.S (Kd.slice 112 k112) 81 w63 w.heap.size (fun k_ => some k_ ≠ (v299 : Value).ownBlock ∧ some k_ ≠ (v305 : Value).ownBlock) v302 y301) := ⟨h5_⟩
    have HO306 : Aside0 (Kd.S (Kd.slice 112 k112) 81 w63 w.heap.size (fun k_ => some k_ ≠ (v299 : Value).ownBlock ∧ some k_ ≠ (v302 : Value).ownBlock) v305 y304) := ⟨h6_⟩
    replace BK278 : Aside0 (w63.heap[gb278]? = some (.cells #[.int .i64 a0_0, .int .i64 a0_1, .slice A0_2 l0_2.length c0_2] 28 (0, 0))) := ⟨h7_⟩
    replace BK279 : Aside0 (w63.heap[gb279]? = some (.cells #[.slice A1_0 l1_0.length c1_0, .slice A1_1 l1_1.length c1_1] 32 (0, 0))) := ⟨h8_⟩
    replace BK280 : Aside0 (w63.heap[gb280]? = some (.cells #[.int .i64 0, .int .i64 0, .slice none 0 0, .slice none 0 0, .slice none 0 0, .slice none 0 0, .slice none 0 0, .slice none 0 0, .slice none 0 0, .slice none 0 0, .int .i64 0] 37 (0, 0))) := ⟨h9_⟩
    replace BK297 : Aside0 (w63.heap[gb297]? = some (.cells #[.int .i64 t283, .int .i64 t284, .slice Ao41 t285.length co41, .slice Ao40 t288.length co40, .slice Ao39 t291.length co39, v299, .slice none 0 0, .slice Ao38 y294.length co38, .slice none 0 0, .slice none 0 0, .int .i64 0] 37 (0, 0))) := ⟨h10_⟩
    replace HB : Aside0 (Below w.heap.size w w63) := ⟨h11_⟩
    clear h0_ h1_ h2_ h3_ h4_ h5_ h6_ h7_ h8_ h9_ h10_ h11_
    have hHeld := trivial
    obtain ⟨Ao64, co64, eo64⟩ := Kd.S_slice HO303.out
    (first | subst eo64 | (injection eo64 with f1_ f2_ f3_; have f4_ := f1_.symm; have f5_ := f3_.symm; clear f1_ f2_ f3_; subst f4_; subst f5_))
    refine norm_ (a' := ?_) ?_ ?_
    rotate_left
    ·simp only [putAll, Act.put, List.setIfInBounds_toArray, List.set_cons_zero, List.set_cons_succ]
     rfl
    refine one_ (i := 10) (N := none) (bt_ 13 2047) rfl rfl (one_of HT_.out (by kernel_rfl)) (by decide) (fun K hK => ?_)
    have hs65 : w63.cell? ⟨gb297, 8, none⟩ = some (.slice none 0 0) := (blk_cell BK297.out 8).trans rfl
    have hfs65 := blk_frozen BK297.out 8
    have hns65_0 := NB278_297.out
    have hns65_1 := NB279_297.out
    have hns65_2 := NB280_297.out
    have hms65_0 := NB297_278.out
    have hms65_1 := NB297_279.out
    have hms65_2 := NB297_280.out
    refine skip_ (w1 := ?_) (by rfl) rfl ?_ ?_
    rotate_left
    ·go_simp
     rfl
    refine hK.out _ _ trivial (fun hHeld => ?_)
    clear hK K
    exact norm_ (by simp only [putAll, Act.put, List.setIfInBounds_toArray, List.set_cons_zero, List.set_cons_succ]; first | done | rfl) (hJ2_4_6_8_10 (v299, .slice Ao64 y301.length co64, v305) _ ⟨(rm_ (Kd.R_types HO287.out BK297.out (by decide)) (fun _ hk => ⟨hk.1.1, ⟨hk.1.2.1, hk.1.2.2⟩⟩)), (rm_ (Kd.R_types HO290.out BK297.out (by decide)) (fun _ hk => ⟨hk.1.1, ⟨hk.1.2.1, hk.1.2.2⟩⟩)), (rm_ (Kd.R_types HO293.out BK297.out (by decide)) (fun _ hk => ⟨hk.1.1, ⟨hk.1.2.1, hk.1.2.2⟩⟩)), (rm_ (Kd.R_types HO296.out BK297.out (by decide)) (fun _ hk => ⟨hk.1.1, ⟨hk.1.2.1, hk.1.2.2⟩⟩)), (sm_ (Kd.S_types HO300.out BK297.out (by decide)) (fun _ hk => ⟨hk.1.1, hk.1.2⟩)), (sm_ (Kd.S_types HO303.out BK297.out (by decide)) (fun _ hk => ⟨hk.1.1, hk.1.2⟩)), (sm_ (Kd.S_types HO306.out BK297.out (by decide)) (fun _ hk => ⟨hk.1.1, hk.1.2⟩)), (by (with_reducible repeat (first | refine blk_drewN ?_ _ | refine blk_drew ?_ | refine blk_alloc ?_ _)); refine blk_far ?_ NB278_297.out _; (with_reducible repeat (first | refine blk_drewN ?_ _ | refine blk_drew ?_ | refine blk_alloc ?_ _)); exact BK278.out), (by (with_reducible repeat (first | refine blk_drewN ?_ _ | refine blk_drew ?_ | refine blk_alloc ?_ _)); refine blk_far ?_ NB279_297.out _; (with_reducible repeat (first | refine blk_drewN ?_ _ | refine blk_drew ?_ | refine blk_alloc ?_ _)); exact BK279.out), (by (with_reducible repeat (first | refine blk_drewN ?_ _ | refine blk_drew ?_ | refine blk_alloc ?_ _)); refine blk_far ?_ NB280_297.out _; (with_reducible repeat (first | refine blk_drewN ?_ _ | refine blk_drew ?_ | refine blk_alloc ?_ _)); exact BK280.out), (by (with_reducible repeat (first | refine blk_drewN ?_ _ | refine blk_drew ?_ | refine blk_alloc ?_ _)); refine blk_put (cs := #[.int .i64 t283, .int .i64 t284, .slice Ao41 t285.length co41, .slice Ao40 t288.length co40, .slice Ao39 t291.length co39, v299, .slice none 0 0, .slice Ao38 y294.length co38, .slice none 0 0, .slice none 0 0, .int .i64 0]) ?_ 8 _ rfl; (with_reducible repeat (first | refine blk_drewN ?_ _ | refine blk_drew ?_ | refine blk_alloc ?_ _)); exact BK297.out), (by repeat (first | (with_reducible first | exact HB.out | apply below_alloc | apply pw_below_drewN | apply below_drew1 | refine below_set ?_ GW278.out | refine below_set ?_ GW279.out | refine below_set ?_ GW280.out | refine below_set ?_ GE297.out) | exact HB.out))⟩)
  rintro ⟨v299, v302, v305⟩ w65 ⟨h0_, h1_, h2_, h3_, h4_, h5_, h6_, h7_, h8_, h9_, h10_, h11_⟩
  replace HO287 : Aside0 (Kd.R (Kd.int .i64) 3 w65 w.heap.size (fun k_ => some k_ ≠ (.slice Ao40 t288.length co40 : Value).ownBlock ∧ some k_ ≠ (.slice Ao39 t291.length co39 : Value).ownBlock ∧ some k_ ≠ (.slice Ao38 y294.length co38 : Value).ownBlock) (.slice Ao41 t285.length co41) t285) := ⟨h0_⟩
  replace HO290 : Aside0 (Kd.R (Kd.int .i64) 3 w65 w.heap.size (fun k_ => some k_ ≠ (.slice Ao41 t285.length co41 : Value).ownBlock ∧ some k_ ≠ (.slice Ao39 t291.length co39 : Value).ownBlock ∧ some k_ ≠ (.slice Ao38 y294.length co38 : Value).ownBlock) (.slice Ao40 t288.length co40) t288) := ⟨h1_⟩
  replace HO293 : Aside0 (Kd.R (Kd.int .i64) 3 w65 w.heap.size (fun k_ => some k_ ≠ (.slice Ao41 t285.length co41 : Value).ownBlock ∧ some k_ ≠ (.slice Ao40 t288.length co40 : Value).ownBlock ∧ some k_ ≠ (.slice Ao38 y294.length co38 : Value).ownBlock) (.slice Ao39 t291.length co39) t291) := ⟨h2_⟩
  replace HO296 : Aside0 (Kd.R (Kd.int .i64) 3 w65 w.heap.size (fun k_ => some k_ ≠ (.slice Ao41 t285.length co41 : Value).ownBlock ∧ some k_ ≠ (.slice Ao40 t288.length co40 : Value).ownBlock ∧ some k_ ≠ (.slice Ao39 t291.length co39 : Value).ownBlock) (.slice Ao38 y294.length co38) y294) := ⟨h3_⟩
  have HO300 : Aside0 (Kd.S (Kd.slice 112 k112) 81 w65 w.heap.size (fun k_ => some k_ ≠ (v302 : Value).ownBlock ∧ some k_ ≠ (v305 : Value).ownBlock) v299 y298) := ⟨h4_⟩
  have HO303 : Aside0 (Kd.S (Kd.slice 112 k112) 81 w65 w.heap.size (fun k_ => some k_ ≠ (v299 : Value).ownBlock ∧ some k_ ≠ (v305 : Value).ownBlock) v302 y301) := ⟨h5_⟩
  have HO306 : Aside0 (Kd.S (Kd.slice 112 k112) 81 w65 w.heap.size (fun k_ => some k_ ≠ (v299 : Value).ownBlock ∧ some k_ ≠ (v302 : Value).ownBlock) v305 y304) := ⟨h6_⟩
  replace BK278 : Aside0 (w65.heap[gb278]? = some (.cells #[.int .i64 a0_0, .int .i64 a0_1, .slice A0_2 l0_2.length c0_2] 28 (0, 0))) := ⟨h7_⟩
  replace BK279 : Aside0 (w65.heap[gb279]? = some (.cells #[.slice A1_0 l1_0.length c1_0, .slice A1_1 l1_1.length c1_1] 32 (0, 0))) := ⟨h8_⟩
  replace BK280 : Aside0 (w65.heap[gb280]? = some (.cells #[.int .i64 0, .int .i64 0, .slice none 0 0, .slice none 0 0, .slice none 0 0, .slice none 0 0, .slice none 0 0, .slice none 0 0, .slice none 0 0, .slice none 0 0, .int .i64 0] 37 (0, 0))) := ⟨h9_⟩
  replace BK297 : Aside0 (w65.heap[gb297]? = some (.cells #[.int .i64 t283, .int .i64 t284, .slice Ao41 t285.length co41, .slice Ao40 t288.length co40, .slice Ao39 t291.length co39, v299, .slice none 0 0, .slice Ao38 y294.length co38, v302, .slice none 0 0, .int .i64 0] 37 (0, 0))) := ⟨h10_⟩
  replace HB : Aside0 (Below w.heap.size w w65) := ⟨h11_⟩
  clear h0_ h1_ h2_ h3_ h4_ h5_ h6_ h7_ h8_ h9_ h10_ h11_
  have hHeld := trivial
  obtain ⟨Ao66, co66, eo66⟩ := Kd.S_slice HO306.out
  (first | subst eo66 | (injection eo66 with f1_ f2_ f3_; have f4_ := f1_.symm; have f5_ := f3_.symm; clear f1_ f2_ f3_; subst f4_; subst f5_))
  refine norm_ (a' := ?_) ?_ ?_
  rotate_left
  ·simp only [putAll, Act.put, List.setIfInBounds_toArray, List.set_cons_zero, List.set_cons_succ]
   rfl
  refine pu_ 11 33 (bt_ 13 4095) HT_ ?_
  refine one_ (i := 12) (N := none) (bt_ 13 8191) rfl rfl (one_of HT_.out (by kernel_rfl)) (by decide) (fun K hK => ?_)
  have hs67 : w65.cell? ⟨gb297, 9, none⟩ = some (.slice none 0 0) := (blk_cell BK297.out 9).trans rfl
  have hfs67 := blk_frozen BK297.out 9
  have hns67_0 := NB278_297.out
  have hns67_1 := NB279_297.out
  have hns67_2 := NB280_297.out
  have hms67_0 := NB297_278.out
  have hms67_1 := NB297_279.out
  have hms67_2 := NB297_280.out
  refine skip_ (w1 := ?_) (by rfl) rfl ?_ ?_
  rotate_left
  ·go_simp
   rfl
  refine hK.out _ _ trivial (fun hHeld => ?_)
  clear hK K
  refine done_ (done_of HT_.out (by kernel_rfl)) ?_
  try go_wp2
  exact impl_NetNew.ez
 ·replace c4 := Bool.eq_false_iff.mpr c4
  subst c4
  rw [if_neg (show ¬ (false = true) by decide)] at H
  simp only [Option.some.injEq, Prod.mk.injEq] at H
  obtain ⟨rfl, rfl, rfl, rfl, rfl, rfl, rfl, rfl, rfl, rfl, rfl, rfl⟩ := H
  exact impl_NetNew.ey

end Go.Proofs.Ytaofkfooijfjbaa.PFnNewNets
-- thin
