/- Each function that the law comes to, as a plain function, with the proof that the call in the model gives what that function says (written by a program of this session out of the translation). No condition. -/
import Derived.Test.YtagmogkdlimofaaPFnReachx0
import Derived.Test.YtagmogkdlimofaaPFnReachx2
import Derived.Test.YtagmogkdlimofaaPFnReachx4
import Derived.Test.YtagmogkdlimofaaPFnReachx8
namespace Go.Proofs.Ytagmogkdlimofaa.PFnReach
open Go.RowKit Go.Proofs.YtagmogkdlimofaaW.PrintWords Go.Proofs.YtagmogkdlimofaaW.PrintLast Go.Proofs.YtagmogkdlimofaaW.PrintMore
attribute [local go_sem] max2_int min2_int max_two min_two max_three min_three max_four min_four   -- for this text's walks alone
set_option linter.unusedVariables false
set_option linter.unusedSimpArgs false

/-! ### laws_FnReach: function 3 -/
def laws_FnReach.f (k : Nat) (l0 : List Int) : Option (Bool) := (laws_big.f l0).bind fun t255 => (if t255 = true then (some true) else ((spec_DrawDepends.f k l0).bind fun t256 => ((spec_DrawPlaces.f k l0).bind fun t259 => (if 0 < (t259.length : Int) then (if 1 < (t259.length : Int) then ((impl_StepsBetween.f k t256 (Int.tmod (rd t259 0) 6) (Int.tmod (rd t259 1) 6)).bind fun t264 => (if 2 < (t259.length : Int) then ((impl_StepsBetween.f k t256 (Int.tmod (rd t259 1) 6) (Int.tmod (rd t259 2) 6)).bind fun t267 => ((impl_StepsBetween.f k t256 (Int.tmod (rd t259 0) 6) (Int.tmod (rd t259 2) 6)).bind fun t270 => (if t264 = 0 then (none) else (if t264 < 0 then (some true) else (if t267 < 0 then (some true) else (if t270 > 0 then (some (decide (t270 ≤ (wrap64 (t264 + t267))))) else (none))))))) else (none))) else (none)) else (none)))))
theorem laws_FnReach.mono : ∀ a0 k, LeO (laws_FnReach.f k a0) (laws_FnReach.f (k + 1) a0) := by
 intro a0 k
 unfold laws_FnReach.f
 repeat' first
   | (with_reducible exact impl_StepsBetween.mono _ _ _ _)
   | (with_reducible exact spec_DrawDepends.mono _ _)
   | (with_reducible exact spec_DrawPlaces.mono _ _)
   | (with_reducible exact LeO.refl _)
   | (with_reducible exact LeO.none _)
   | (with_reducible refine LeO.ite ?_ ?_)
   | (with_reducible refine LeO.bind ?_ (fun _ => ?_))
   | exact impl_StepsBetween.mono _ _ _ _
   | exact spec_DrawDepends.mono _ _
   | exact spec_DrawPlaces.mono _ _
   | exact LeO.none _
   | refine LeO.ite ?_ ?_
   | refine LeO.bind ?_ (fun _ => ?_)
def laws_FnReach.T5 : Bool × List (List Nat × List Nat) := (true, [([], []), ([], []), ([1], [1]), ([2], [2]), ([3], [3]), ([], []), ([5], [5]), ([6], [6]), ([7], [7]), ([0, 4, 8], [0, 4, 8]), ([9, 9, 0, 1, 2, 3, 4, 5, 6, 7, 8, 9], [9])])
def laws_FnReach.B5 : List Nat := [0, 0, 2, 6, 14, 0, 32, 96, 224, 511, 1023]
theorem laws_FnReach.tab5 : rtab .any (opsOf Try.f3 5) = laws_FnReach.T5 := by kernel_rfl
theorem laws_FnReach.bits5 : waitsOk laws_FnReach.T5.2 laws_FnReach.B5 = true := by kernel_rfl
def laws_FnReach.T6 : Bool × List (List Nat × List Nat) := (true, [([], []), ([], []), ([1], [1]), ([2], [2]), ([3], [3]), ([], []), ([5], [5]), ([6], [6]), ([7], [7]), ([0, 4, 8], [0, 4, 8]), ([9, 9, 0, 1, 2, 3, 4, 5, 6, 7, 8, 9], [9])])
def laws_FnReach.B6 : List Nat := [0, 0, 2, 6, 14, 0, 32, 96, 224, 511, 1023]
theorem laws_FnReach.tab6 : rtab .any (opsOf Try.f3 6) = laws_FnReach.T6 := by kernel_rfl
theorem laws_FnReach.bits6 : waitsOk laws_FnReach.T6.2 laws_FnReach.B6 = true := by kernel_rfl
def laws_FnReach.T7 : Bool × List (List Nat × List Nat) := (true, [([], []), ([], []), ([1], [1]), ([2], [2]), ([3], [3]), ([], []), ([5], [5]), ([6], [6]), ([7], [7]), ([0, 4, 8], [0, 4, 8]), ([9, 9, 0, 1, 2, 3, 4, 5, 6, 7, 8, 9], [9])])
def laws_FnReach.B7 : List Nat := [0, 0, 2, 6, 14, 0, 32, 96, 224, 511, 1023]
theorem laws_FnReach.tab7 : rtab .any (opsOf Try.f3 7) = laws_FnReach.T7 := by kernel_rfl
theorem laws_FnReach.bits7 : waitsOk laws_FnReach.T7.2 laws_FnReach.B7 = true := by kernel_rfl
set_option maxHeartbeats 8000000 in
set_option maxRecDepth 100000 in
theorem laws_FnReach.calls (k : Nat) (A0 : Option Addr) (c0 : Nat) (l0 : List Int) (r : Bool) (w : World) (hr0 : Kd.C (Kd.int .u8) w A0 l0.length l0) (hc0 : l0.length ≤ c0) (h : laws_FnReach.f k l0 = some r) :
  Calls Try.prog 3 #[.slice A0 l0.length c0] w fun e w' => e = .returned (.bool r) ∧ Below w.heap.size w w' := by
 have HR0 := Aside0.mk hr0
 have HC0 := Aside0.mk hc0
 clear hr0 hc0
 have HB := Aside0.mk (Below.refl w.heap.size w)
 have H : ((laws_big.f l0).bind fun t255 => (if t255 = true then (some true) else ((spec_DrawDepends.f k l0).bind fun t256 => ((spec_DrawPlaces.f k l0).bind fun t259 => (if 0 < (t259.length : Int) then (if 1 < (t259.length : Int) then ((impl_StepsBetween.f k t256 (Int.tmod (rd t259 0) 6) (Int.tmod (rd t259 1) 6)).bind fun t264 => (if 2 < (t259.length : Int) then ((impl_StepsBetween.f k t256 (Int.tmod (rd t259 1) 6) (Int.tmod (rd t259 2) 6)).bind fun t267 => ((impl_StepsBetween.f k t256 (Int.tmod (rd t259 0) 6) (Int.tmod (rd t259 2) 6)).bind fun t270 => (if t264 = 0 then (none) else (if t264 < 0 then (some true) else (if t267 < 0 then (some true) else (if t270 > 0 then (some (decide (t270 ≤ (wrap64 (t264 + t267))))) else (none))))))) else (none))) else (none)) else (none)))))) = some r := h
 clear h
 replace H := Option.bind_eq_some_iff.mp H
 obtain ⟨t255, A20, H⟩ := H
 try dsimp only at H
 have A2 := Aside0.mk A20
 clear A20
 by_cases c3 : t255 = true
 ·subst c3
  rw [if_pos rfl] at H
  obtain rfl := Option.some.inj H
  go_enter Try.func3, Try.ntmps3
  go_wp2_with (first | ((with_reducible refine gate_callee (f := 10) rfl ?_); refine gm_ (some 9) Try.func10 #[.slice A0 l0.length c0] rfl ?_; (with_reducible refine (laws_big.calls _ _ l0 true _ ?side1 HC0.out A2.out).mono ?_); (case side1 => repeat (first | exact HR0.out | (with_reducible refine Kd.C_alloc ?_ _) | (with_reducible refine Kd.C_drewN ?_ _) | (with_reducible refine Kd.C_drew ?_))); rintro e w' ⟨rfl, ⟨nd, rfl⟩⟩; refine ⟨_, rfl, ?_⟩))
  go_ret
  exact ⟨fin_, bb_ HB.out⟩
 ·replace c3 := Bool.eq_false_iff.mpr c3
  subst c3
  rw [if_neg (show ¬ (false = true) by decide)] at H
  replace H := Option.bind_eq_some_iff.mp H
  obtain ⟨t256, A40, H⟩ := H
  try dsimp only at H
  have A4 := Aside0.mk A40
  clear A40
  replace H := Option.bind_eq_some_iff.mp H
  obtain ⟨t259, A50, H⟩ := H
  try dsimp only at H
  have A5 := Aside0.mk A50
  clear A50
  by_cases c6 : 0 < (t259.length : Int)
  ·rw [if_pos c6] at H
   have c6b0 : decide (0 < (t259.length : Int)) = true := decide_eq_true c6
   have c6b1 : decide (0 < t259.length) = true := decide_eq_true (by omega)
   clear c6
   by_cases c7 : 1 < (t259.length : Int)
   ·rw [if_pos c7] at H
    have c7b0 : decide (1 < (t259.length : Int)) = true := decide_eq_true c7
    have c7b1 : decide (1 < t259.length) = true := decide_eq_true (by omega)
    clear c7
    replace H := Option.bind_eq_some_iff.mp H
    obtain ⟨t264, A80, H⟩ := H
    try dsimp only at H
    have A8 := Aside0.mk A80
    clear A80
    by_cases c9 : 2 < (t259.length : Int)
    ·rw [if_pos c9] at H
     have c9b0 : decide (2 < (t259.length : Int)) = true := decide_eq_true c9
     have c9b1 : decide (2 < t259.length) = true := decide_eq_true (by omega)
     clear c9
     replace H := Option.bind_eq_some_iff.mp H
     obtain ⟨t267, A100, H⟩ := H
     try dsimp only at H
     have A10 := Aside0.mk A100
     clear A100
     replace H := Option.bind_eq_some_iff.mp H
     obtain ⟨t270, A110, H⟩ := H
     try dsimp only at H
     have A11 := Aside0.mk A110
     clear A110
     by_cases c12 : t264 = 0
     ·rw [if_pos c12] at H
      exact absurd H (by simp)
     ·rw [if_neg c12] at H
      have c12b0 : (t264 == 0) = false := beq_eq_false_iff_ne.mpr c12
      have c12b1 : (t264 != 0) = true := bne_iff_ne.mpr c12
      by_cases c13 : t264 < 0
      ·rw [if_pos c13] at H
       have c13b0 : decide (t264 < 0) = true := decide_eq_true c13
       clear c13
       obtain rfl := Option.some.inj H
       go_enter Try.func3, Try.ntmps3
       try go_wp2_with (first | ((with_reducible refine gate_callee (f := 10) rfl ?_); refine gm_ (some 9) Try.func10 #[.slice A0 l0.length c0] rfl ?_; (with_reducible refine (laws_big.calls _ _ l0 false _ ?side1 HC0.out A2.out).mono ?_); (case side1 => repeat (first | exact HR0.out | (with_reducible refine Kd.C_alloc ?_ _) | (with_reducible refine Kd.C_drewN ?_ _) | (with_reducible refine Kd.C_drew ?_))); rintro e w' ⟨rfl, ⟨nd, rfl⟩⟩; refine ⟨_, rfl, ?_⟩) | ((with_reducible refine gate_callee (f := 11) rfl ?_); refine gm_ (some 11) Try.func11 #[.slice A0 l0.length c0] rfl ?_; (with_reducible refine (spec_DrawDepends.calls k _ _ l0 t256 _ ?side1 HC0.out A4.out).mono ?_); (case side1 => repeat (first | exact HR0.out | (with_reducible refine Kd.C_alloc ?_ _) | (with_reducible refine Kd.C_drewN ?_ _) | (with_reducible refine Kd.C_drew ?_))); rintro e w14 ⟨v257, rfl, ho0, hb⟩; refine ⟨_, rfl, ?_⟩; have HO258 := Aside0.mk (Kd.R_lower ho0 (bz_ HB.out)); replace HB := Aside0.mk (bs_ HB.out hb); (try clear hb); (try clear ho0)) | ((with_reducible refine gate_callee (f := 12) rfl ?_); refine gm_ (some 13) Try.func12 #[.slice A0 l0.length c0] rfl ?_; (with_reducible refine (spec_DrawPlaces.calls k _ _ l0 t259 _ ?side1 HC0.out A5.out).mono ?_); (case side1 => exact cb_ HR0.out HB.out); rintro e w15 ⟨v260, rfl, ho0, hb⟩; refine ⟨_, rfl, ?_⟩; replace HO258 := Aside0.mk (Kd.R_below (ra_ HO258.out) hb); have HO261 := Aside0.mk (Kd.R_lower ho0 (bz_ HB.out)); replace HB := Aside0.mk (bs_ HB.out hb); (try clear hb); (try clear ho0)))
       have n0_ := Aside0.mk (Kd.R_drew HO258.out)
       have n1_ := Aside0.mk (Kd.R_drew HO261.out)
       have n2_ := Aside0.mk (below_drew1 HB.out)
       clear HO258
       clear HO261
       clear HB
       have HO258 := n0_
       have HO261 := n1_
       have HB := n2_
       clear n0_ n1_ n2_
       obtain ⟨Ao17, co17, eo17⟩ := Kd.R_slice HO261.out
       (first | subst eo17 | (injection eo17 with f1_ f2_ f3_; have f4_ := f1_.symm; have f5_ := f3_.symm; clear f1_ f2_ f3_; subst f4_; subst f5_))
       have p262 : 0 ≤ (0 : Int) := (by omega)
       have q262 : 0 < (t259.length : Int) := of_decide_eq_true dg_
       obtain ⟨ad262, e262, hx262_0⟩ := Kd.at_int (Kd.R_reads' HO261.out).2.2 0 p262 q262
       cases e262
       have qi262 : (0 < t259.length) = True := eq_true (by omega)
       (try rw [show ((0 : Int)).toNat = 0 from rfl] at hx262_0)
       (try rw [Addr.add_zero'] at hx262_0)
       replace p262 := eq_true p262
       replace q262 := eq_true q262
       have p263 : 0 ≤ (1 : Int) := (by omega)
       have q263 : 1 < (t259.length : Int) := of_decide_eq_true dg_
       obtain ⟨ad263, e263, hx263_0⟩ := Kd.at_int (Kd.R_reads' HO261.out).2.2 1 p263 q263
       obtain rfl : ad262 = ad263 := (by injection e263)
       (try simp only [show (1 : Int).toNat = 1 from rfl, Nat.reduceMul, Nat.reduceEqDiff, Go.Addr.add, ↓reduceIte] at hx263_0)
       have qi263 : (1 < t259.length) = True := eq_true (by omega)
       (try rw [show ((1 : Int)).toNat = 1 from rfl] at hx263_0)
       replace p263 := eq_true p263
       replace q263 := eq_true q263
       obtain ⟨Ao18, co18, eo18⟩ := Kd.R_slice HO258.out
       (first | subst eo18 | (injection eo18 with f1_ f2_ f3_; have f4_ := f1_.symm; have f5_ := f3_.symm; clear f1_ f2_ f3_; subst f4_; subst f5_))
       refine start_ (n := 11) (S := fun w' => w'.cell? ad262 = some (.int .i64 (rd t259 0)) ∧ w'.cell? ⟨ad262.block, ad262.off + 1, none⟩ = some (.int .i64 (rd t259 1))) (ds := []) #[false, false, false, false, false, false, false, false, false, false, false] (by kernel_rfl) rfl rfl ⟨hx262_0, hx263_0⟩ (fun hHeld => ?_); refine with_tabW laws_FnReach.tab5 laws_FnReach.bits5 (fun HT_ HW_ => ?_)
       generalize w15.drew = w16 at HO258 HO261 HB hx262_0 hx263_0 hHeld ⊢
       refine pu_ 0 14 (bt_ 11 1) HT_ ?_
       refine pu_ 1 15 (bt_ 11 3) HT_ ?_
       refine pu_ 2 16 (bt_ 11 7) HT_ ?_
       refine pu_ 5 19 (bt_ 11 39) HT_ ?_
       refine pu_ 6 20 (bt_ 11 103) HT_ ?_
       refine take_ (i := 3) (N := some 17) (v := ?_) (a' := ?_) (bt_ 11 111) rfl rfl (take_ofW HT_.out HW_.out (by kernel_rfl)) (fun _ _ _ h => h) (Or.inl ⟨by rfl, ?_⟩) hHeld ?_ ?_
       rotate_left
       ·rintro w' ⟨s0, s1⟩
        go_simp
        with_reducible rfl
       rotate_left
       ·simp only [Act.put, List.setIfInBounds_toArray, List.set_cons_zero, List.set_cons_succ, i64_w, i32_w]
        rfl
       refine pu_ 4 18 (bt_ 11 127) HT_ ?_
       refine take_ (i := 7) (N := some 21) (v := ?_) (a' := ?_) (bt_ 11 255) rfl rfl (take_ofW HT_.out HW_.out (by kernel_rfl)) (fun _ _ _ h => h) (Or.inl ⟨by rfl, ?_⟩) hHeld ?_ ?_
       rotate_left
       ·rintro w' ⟨s0, s1⟩
        go_simp
        with_reducible rfl
       rotate_left
       ·simp only [Act.put, List.setIfInBounds_toArray, List.set_cons_zero, List.set_cons_succ, i64_w, i32_w]
        rfl
       refine pu_ 8 22 (bt_ 11 511) HT_ ?_
       refine one_ (i := 9) (N := some 23) (bt_ 11 1023) rfl rfl (one_of HT_.out (by kernel_rfl)) (by decide) (fun K hK => ?_)
       refine goes_ Try.func13 (by kernel_rfl) rfl #[.slice Ao18 t256.length co18, .int .i64 (Int.tmod (rd t259 0) 6), .int .i64 (Int.tmod (rd t259 1) 6)] (by rfl) rfl rfl (by (try simp only [List.map_toArray, List.map_cons, List.map_nil]); first | done | rfl | (simp only [List.length_drop, List.length_take]; rfl)) ?_
       with_reducible refine (impl_StepsBetween.calls k _ _ t256 (Int.tmod (rd t259 0) 6) (Int.tmod (rd t259 1) 6) t264 _ ?side1 ?side2 A8.out).mono ?_
       (case side1 => repeat (first | exact (Kd.R_reads' HO258.out).2.2 | (with_reducible refine Kd.C_alloc ?_ _) | (with_reducible refine Kd.C_drewN ?_ _) | (with_reducible refine Kd.C_drew ?_)))
       (case side2 => exact (Kd.R_reads' HO258.out).2.1)
       rintro e w19 ⟨rfl, hb⟩
       have HS0_ := (hb.cell (World.block_lt_of_cell? _ _ (hHeld.1))).trans (hHeld.1)
       have HS1_ := (hb.cell (World.block_lt_of_cell? _ _ (hHeld.2))).trans (hHeld.2)
       refine ⟨_, rfl, ?_⟩
       have n0_ := Aside0.mk (Kd.R_below (ra_ HO258.out) hb)
       have n1_ := Aside0.mk (Kd.R_below (ra_ HO261.out) hb)
       have n2_ := Aside0.mk (bs_ HB.out hb)
       clear HO258
       clear HO261
       clear HB
       have HO258 := n0_
       have HO261 := n1_
       have HB := n2_
       clear n0_ n1_ n2_
       (try clear hb)
       (try clear hb2)
       (try clear hk)
       (try clear hi)
       refine hK.out _ _ ⟨HS0_, HS1_⟩ (fun hHeld => ?_)
       clear hK K
       refine norm_ (a' := ?_) ?_ ?_
       rotate_left
       ·show Act.put _ (some 23) _ = _
        simp only [Act.put, List.setIfInBounds_toArray, List.set_cons_zero, List.set_cons_succ, i64_w, i32_w]
        rfl
       refine pu_ 10 5 (bt_ 11 2047) HT_ ?_
       refine done_ (done_of HT_.out (by kernel_rfl)) ?_
       try go_wp2
       have n0_ := Aside0.mk (Kd.R_drew HO258.out)
       have n1_ := Aside0.mk (Kd.R_drew HO261.out)
       have n2_ := Aside0.mk (below_drew1 HB.out)
       clear HO258
       clear HO261
       clear HB
       have HO258 := n0_
       have HO261 := n1_
       have HB := n2_
       clear n0_ n1_ n2_
       have p265 : 0 ≤ (1 : Int) := (by omega)
       have q265 : 1 < (t259.length : Int) := of_decide_eq_true dg_
       obtain ⟨ad265, e265, hx265_0⟩ := Kd.at_int (Kd.R_reads' HO261.out).2.2 1 p265 q265
       obtain rfl : ad262 = ad265 := (by injection e265)
       (try simp only [show (1 : Int).toNat = 1 from rfl, Nat.reduceMul, Nat.reduceEqDiff, Go.Addr.add, ↓reduceIte] at hx265_0)
       have qi265 : (1 < t259.length) = True := eq_true (by omega)
       (try rw [show ((1 : Int)).toNat = 1 from rfl] at hx265_0)
       replace p265 := eq_true p265
       replace q265 := eq_true q265
       have p266 : 0 ≤ (2 : Int) := (by omega)
       have q266 : 2 < (t259.length : Int) := of_decide_eq_true dg_
       obtain ⟨ad266, e266, hx266_0⟩ := Kd.at_int (Kd.R_reads' HO261.out).2.2 2 p266 q266
       obtain rfl : ad262 = ad266 := (by injection e266)
       (try simp only [show (2 : Int).toNat = 2 from rfl, Nat.reduceMul, Nat.reduceEqDiff, Go.Addr.add, ↓reduceIte] at hx266_0)
       have qi266 : (2 < t259.length) = True := eq_true (by omega)
       (try rw [show ((2 : Int)).toNat = 2 from rfl] at hx266_0)
       replace p266 := eq_true p266
       replace q266 := eq_true q266
       refine start_ (n := 11) (S := fun w' => w'.cell? ⟨ad262.block, ad262.off + 1, none⟩ = some (.int .i64 (rd t259 1)) ∧ w'.cell? ⟨ad262.block, ad262.off + 2, none⟩ = some (.int .i64 (rd t259 2))) (ds := []) #[false, false, false, false, false, false, false, false, false, false, false] (by kernel_rfl) rfl rfl ⟨hx265_0, hx266_0⟩ (fun hHeld => ?_); refine with_tabW laws_FnReach.tab6 laws_FnReach.bits6 (fun HT_ HW_ => ?_)
       generalize w19.drew = w20 at HO258 HO261 HB hx265_0 hx266_0 hHeld ⊢
       refine pu_ 0 24 (bt_ 11 1) HT_ ?_
       refine pu_ 1 25 (bt_ 11 3) HT_ ?_
       refine pu_ 2 26 (bt_ 11 7) HT_ ?_
       refine pu_ 5 29 (bt_ 11 39) HT_ ?_
       refine pu_ 6 30 (bt_ 11 103) HT_ ?_
       refine take_ (i := 3) (N := some 27) (v := ?_) (a' := ?_) (bt_ 11 111) rfl rfl (take_ofW HT_.out HW_.out (by kernel_rfl)) (fun _ _ _ h => h) (Or.inl ⟨by rfl, ?_⟩) hHeld ?_ ?_
       rotate_left
       ·rintro w' ⟨s0, s1⟩
        go_simp
        with_reducible rfl
       rotate_left
       ·simp only [Act.put, List.setIfInBounds_toArray, List.set_cons_zero, List.set_cons_succ, i64_w, i32_w]
        rfl
       refine pu_ 4 28 (bt_ 11 127) HT_ ?_
       refine take_ (i := 7) (N := some 31) (v := ?_) (a' := ?_) (bt_ 11 255) rfl rfl (take_ofW HT_.out HW_.out (by kernel_rfl)) (fun _ _ _ h => h) (Or.inl ⟨by rfl, ?_⟩) hHeld ?_ ?_
       rotate_left
       ·rintro w' ⟨s0, s1⟩
        go_simp
        with_reducible rfl
       rotate_left
       ·simp only [Act.put, List.setIfInBounds_toArray, List.set_cons_zero, List.set_cons_succ, i64_w, i32_w]
        rfl
       refine pu_ 8 32 (bt_ 11 511) HT_ ?_
       refine one_ (i := 9) (N := some 33) (bt_ 11 1023) rfl rfl (one_of HT_.out (by kernel_rfl)) (by decide) (fun K hK => ?_)
       refine goes_ Try.func13 (by kernel_rfl) rfl #[.slice Ao18 t256.length co18, .int .i64 (Int.tmod (rd t259 1) 6), .int .i64 (Int.tmod (rd t259 2) 6)] (by rfl) rfl rfl (by (try simp only [List.map_toArray, List.map_cons, List.map_nil]); first | done | rfl | (simp only [List.length_drop, List.length_take]; rfl)) ?_
       with_reducible refine (impl_StepsBetween.calls k _ _ t256 (Int.tmod (rd t259 1) 6) (Int.tmod (rd t259 2) 6) t267 _ ?side1 ?side2 A10.out).mono ?_
       (case side1 => repeat (first | exact (Kd.R_reads' HO258.out).2.2 | (with_reducible refine Kd.C_alloc ?_ _) | (with_reducible refine Kd.C_drewN ?_ _) | (with_reducible refine Kd.C_drew ?_)))
       (case side2 => exact (Kd.R_reads' HO258.out).2.1)
       rintro e w21 ⟨rfl, hb⟩
       have HS0_ := (hb.cell (World.block_lt_of_cell? _ _ (hHeld.1))).trans (hHeld.1)
       have HS1_ := (hb.cell (World.block_lt_of_cell? _ _ (hHeld.2))).trans (hHeld.2)
       refine ⟨_, rfl, ?_⟩
       have n0_ := Aside0.mk (Kd.R_below (ra_ HO258.out) hb)
       have n1_ := Aside0.mk (Kd.R_below (ra_ HO261.out) hb)
       have n2_ := Aside0.mk (bs_ HB.out hb)
       clear HO258
       clear HO261
       clear HB
       have HO258 := n0_
       have HO261 := n1_
       have HB := n2_
       clear n0_ n1_ n2_
       (try clear hb)
       (try clear hb2)
       (try clear hk)
       (try clear hi)
       refine hK.out _ _ ⟨HS0_, HS1_⟩ (fun hHeld => ?_)
       clear hK K
       refine norm_ (a' := ?_) ?_ ?_
       rotate_left
       ·show Act.put _ (some 33) _ = _
        simp only [Act.put, List.setIfInBounds_toArray, List.set_cons_zero, List.set_cons_succ, i64_w, i32_w]
        rfl
       refine pu_ 10 6 (bt_ 11 2047) HT_ ?_
       refine done_ (done_of HT_.out (by kernel_rfl)) ?_
       try go_wp2
       have n0_ := Aside0.mk (Kd.R_drew HO258.out)
       have n1_ := Aside0.mk (Kd.R_drew HO261.out)
       have n2_ := Aside0.mk (below_drew1 HB.out)
       clear HO258
       clear HO261
       clear HB
       have HO258 := n0_
       have HO261 := n1_
       have HB := n2_
       clear n0_ n1_ n2_
       have p268 : 0 ≤ (0 : Int) := (by omega)
       have q268 : 0 < (t259.length : Int) := of_decide_eq_true dg_
       obtain ⟨ad268, e268, hx268_0⟩ := Kd.at_int (Kd.R_reads' HO261.out).2.2 0 p268 q268
       obtain rfl : ad262 = ad268 := (by injection e268)
       have qi268 : (0 < t259.length) = True := eq_true (by omega)
       (try rw [show ((0 : Int)).toNat = 0 from rfl] at hx268_0)
       (try rw [Addr.add_zero'] at hx268_0)
       replace p268 := eq_true p268
       replace q268 := eq_true q268
       have p269 : 0 ≤ (2 : Int) := (by omega)
       have q269 : 2 < (t259.length : Int) := of_decide_eq_true dg_
       obtain ⟨ad269, e269, hx269_0⟩ := Kd.at_int (Kd.R_reads' HO261.out).2.2 2 p269 q269
       obtain rfl : ad262 = ad269 := (by injection e269)
       (try simp only [show (2 : Int).toNat = 2 from rfl, Nat.reduceMul, Nat.reduceEqDiff, Go.Addr.add, ↓reduceIte] at hx269_0)
       have qi269 : (2 < t259.length) = True := eq_true (by omega)
       (try rw [show ((2 : Int)).toNat = 2 from rfl] at hx269_0)
       replace p269 := eq_true p269
       replace q269 := eq_true q269
       refine start_ (n := 11) (S := fun w' => w'.cell? ad262 = some (.int .i64 (rd t259 0)) ∧ w'.cell? ⟨ad262.block, ad262.off + 2, none⟩ = some (.int .i64 (rd t259 2))) (ds := []) #[false, false, false, false, false, false, false, false, false, false, false] (by kernel_rfl) rfl rfl ⟨hx268_0, hx269_0⟩ (fun hHeld => ?_); refine with_tabW laws_FnReach.tab7 laws_FnReach.bits7 (fun HT_ HW_ => ?_)
       generalize w21.drew = w22 at HO258 HO261 HB hx268_0 hx269_0 hHeld ⊢
       refine pu_ 0 34 (bt_ 11 1) HT_ ?_
       refine pu_ 1 35 (bt_ 11 3) HT_ ?_
       refine pu_ 2 36 (bt_ 11 7) HT_ ?_
       refine pu_ 5 39 (bt_ 11 39) HT_ ?_
       refine pu_ 6 40 (bt_ 11 103) HT_ ?_
       refine take_ (i := 3) (N := some 37) (v := ?_) (a' := ?_) (bt_ 11 111) rfl rfl (take_ofW HT_.out HW_.out (by kernel_rfl)) (fun _ _ _ h => h) (Or.inl ⟨by rfl, ?_⟩) hHeld ?_ ?_
       rotate_left
       ·rintro w' ⟨s0, s1⟩
        go_simp
        with_reducible rfl
       rotate_left
       ·simp only [Act.put, List.setIfInBounds_toArray, List.set_cons_zero, List.set_cons_succ, i64_w, i32_w]
        rfl
       refine pu_ 4 38 (bt_ 11 127) HT_ ?_
       refine take_ (i := 7) (N := some 41) (v := ?_) (a' := ?_) (bt_ 11 255) rfl rfl (take_ofW HT_.out HW_.out (by kernel_rfl)) (fun _ _ _ h => h) (Or.inl ⟨by rfl, ?_⟩) hHeld ?_ ?_
       rotate_left
       ·rintro w' ⟨s0, s1⟩
        go_simp
        with_reducible rfl
       rotate_left
       ·simp only [Act.put, List.setIfInBounds_toArray, List.set_cons_zero, List.set_cons_succ, i64_w, i32_w]
        rfl
       refine pu_ 8 42 (bt_ 11 511) HT_ ?_
       refine one_ (i := 9) (N := some 43) (bt_ 11 1023) rfl rfl (one_of HT_.out (by kernel_rfl)) (by decide) (fun K hK => ?_)
       refine goes_ Try.func13 (by kernel_rfl) rfl #[.slice Ao18 t256.length co18, .int .i64 (Int.tmod (rd t259 0) 6), .int .i64 (Int.tmod (rd t259 2) 6)] (by rfl) rfl rfl (by (try simp only [List.map_toArray, List.map_cons, List.map_nil]); first | done | rfl | (simp only [List.length_drop, List.length_take]; rfl)) ?_
       with_reducible refine (impl_StepsBetween.calls k _ _ t256 (Int.tmod (rd t259 0) 6) (Int.tmod (rd t259 2) 6) t270 _ ?side1 ?side2 A11.out).mono ?_
       (case side1 => repeat (first | exact (Kd.R_reads' HO258.out).2.2 | (with_reducible refine Kd.C_alloc ?_ _) | (with_reducible refine Kd.C_drewN ?_ _) | (with_reducible refine Kd.C_drew ?_)))
       (case side2 => exact (Kd.R_reads' HO258.out).2.1)
       rintro e w23 ⟨rfl, hb⟩
       have HS0_ := (hb.cell (World.block_lt_of_cell? _ _ (hHeld.1))).trans (hHeld.1)
       have HS1_ := (hb.cell (World.block_lt_of_cell? _ _ (hHeld.2))).trans (hHeld.2)
       refine ⟨_, rfl, ?_⟩
       have n0_ := Aside0.mk (Kd.R_below (ra_ HO258.out) hb)
       have n1_ := Aside0.mk (Kd.R_below (ra_ HO261.out) hb)
       have n2_ := Aside0.mk (bs_ HB.out hb)
       clear HO258
       clear HO261
       clear HB
       have HO258 := n0_
       have HO261 := n1_
       have HB := n2_
       clear n0_ n1_ n2_
       (try clear hb)
       (try clear hb2)
       (try clear hk)
       (try clear hi)
       refine hK.out _ _ ⟨HS0_, HS1_⟩ (fun hHeld => ?_)
       clear hK K
       refine norm_ (a' := ?_) ?_ ?_
       rotate_left
       ·show Act.put _ (some 43) _ = _
        simp only [Act.put, List.setIfInBounds_toArray, List.set_cons_zero, List.set_cons_succ, i64_w, i32_w]
        rfl
       refine pu_ 10 7 (bt_ 11 2047) HT_ ?_
       refine done_ (done_of HT_.out (by kernel_rfl)) ?_
       try go_wp2
       go_ret
       exact ⟨fin_, bb_ HB.out⟩
      ·rw [if_neg c13] at H
       have c13b0 : decide (t264 < 0) = false := decide_eq_false c13
       clear c13
       by_cases c24 : t267 < 0
       ·rw [if_pos c24] at H
        have c24b0 : decide (t267 < 0) = true := decide_eq_true c24
        clear c24
        obtain rfl := Option.some.inj H
        go_enter Try.func3, Try.ntmps3
        try go_wp2_with (first | ((with_reducible refine gate_callee (f := 10) rfl ?_); refine gm_ (some 9) Try.func10 #[.slice A0 l0.length c0] rfl ?_; (with_reducible refine (laws_big.calls _ _ l0 false _ ?side1 HC0.out A2.out).mono ?_); (case side1 => repeat (first | exact HR0.out | (with_reducible refine Kd.C_alloc ?_ _) | (with_reducible refine Kd.C_drewN ?_ _) | (with_reducible refine Kd.C_drew ?_))); rintro e w' ⟨rfl, ⟨nd, rfl⟩⟩; refine ⟨_, rfl, ?_⟩) | ((with_reducible refine gate_callee (f := 11) rfl ?_); refine gm_ (some 11) Try.func11 #[.slice A0 l0.length c0] rfl ?_; (with_reducible refine (spec_DrawDepends.calls k _ _ l0 t256 _ ?side1 HC0.out A4.out).mono ?_); (case side1 => repeat (first | exact HR0.out | (with_reducible refine Kd.C_alloc ?_ _) | (with_reducible refine Kd.C_drewN ?_ _) | (with_reducible refine Kd.C_drew ?_))); rintro e w25 ⟨v257, rfl, ho0, hb⟩; refine ⟨_, rfl, ?_⟩; have HO258 := Aside0.mk (Kd.R_lower ho0 (bz_ HB.out)); replace HB := Aside0.mk (bs_ HB.out hb); (try clear hb); (try clear ho0)) | ((with_reducible refine gate_callee (f := 12) rfl ?_); refine gm_ (some 13) Try.func12 #[.slice A0 l0.length c0] rfl ?_; (with_reducible refine (spec_DrawPlaces.calls k _ _ l0 t259 _ ?side1 HC0.out A5.out).mono ?_); (case side1 => exact cb_ HR0.out HB.out); rintro e w26 ⟨v260, rfl, ho0, hb⟩; refine ⟨_, rfl, ?_⟩; replace HO258 := Aside0.mk (Kd.R_below (ra_ HO258.out) hb); have HO261 := Aside0.mk (Kd.R_lower ho0 (bz_ HB.out)); replace HB := Aside0.mk (bs_ HB.out hb); (try clear hb); (try clear ho0)))
        have n0_ := Aside0.mk (Kd.R_drew HO258.out)
        have n1_ := Aside0.mk (Kd.R_drew HO261.out)
        have n2_ := Aside0.mk (below_drew1 HB.out)
        clear HO258
        clear HO261
        clear HB
        have HO258 := n0_
        have HO261 := n1_
        have HB := n2_
        clear n0_ n1_ n2_
        obtain ⟨Ao28, co28, eo28⟩ := Kd.R_slice HO261.out
        (first | subst eo28 | (injection eo28 with f1_ f2_ f3_; have f4_ := f1_.symm; have f5_ := f3_.symm; clear f1_ f2_ f3_; subst f4_; subst f5_))
        have p262 : 0 ≤ (0 : Int) := (by omega)
        have q262 : 0 < (t259.length : Int) := of_decide_eq_true dg_
        obtain ⟨ad262, e262, hx262_0⟩ := Kd.at_int (Kd.R_reads' HO261.out).2.2 0 p262 q262
        cases e262
        have qi262 : (0 < t259.length) = True := eq_true (by omega)
        (try rw [show ((0 : Int)).toNat = 0 from rfl] at hx262_0)
        (try rw [Addr.add_zero'] at hx262_0)
        replace p262 := eq_true p262
        replace q262 := eq_true q262
        have p263 : 0 ≤ (1 : Int) := (by omega)
        have q263 : 1 < (t259.length : Int) := of_decide_eq_true dg_
        obtain ⟨ad263, e263, hx263_0⟩ := Kd.at_int (Kd.R_reads' HO261.out).2.2 1 p263 q263
        obtain rfl : ad262 = ad263 := (by injection e263)
        (try simp only [show (1 : Int).toNat = 1 from rfl, Nat.reduceMul, Nat.reduceEqDiff, Go.Addr.add, ↓reduceIte] at hx263_0)
        have qi263 : (1 < t259.length) = True := eq_true (by omega)
        (try rw [show ((1 : Int)).toNat = 1 from rfl] at hx263_0)
        replace p263 := eq_true p263
        replace q263 := eq_true q263
        obtain ⟨Ao29, co29, eo29⟩ := Kd.R_slice HO258.out
        (first | subst eo29 | (injection eo29 with f1_ f2_ f3_; have f4_ := f1_.symm; have f5_ := f3_.symm; clear f1_ f2_ f3_; subst f4_; subst f5_))
        refine start_ (n := 11) (S := fun w' => w'.cell? ad262 = some (.int .i64 (rd t259 0)) ∧ w'.cell? ⟨ad262.block, ad262.off + 1, none⟩ = some (.int .i64 (rd t259 1))) (ds := []) #[false, false, false, false, false, false, false, false, false, false, false] (by kernel_rfl) rfl rfl ⟨hx262_0, hx263_0⟩ (fun hHeld => ?_); refine with_tabW laws_FnReach.tab5 laws_FnReach.bits5 (fun HT_ HW_ => ?_)
        generalize w26.drew = w27 at HO258 HO261 HB hx262_0 hx263_0 hHeld ⊢
        refine pu_ 0 14 (bt_ 11 1) HT_ ?_
        refine pu_ 1 15 (bt_ 11 3) HT_ ?_
        refine pu_ 2 16 (bt_ 11 7) HT_ ?_
        refine pu_ 5 19 (bt_ 11 39) HT_ ?_
        refine pu_ 6 20 (bt_ 11 103) HT_ ?_
        refine take_ (i := 3) (N := some 17) (v := ?_) (a' := ?_) (bt_ 11 111) rfl rfl (take_ofW HT_.out HW_.out (by kernel_rfl)) (fun _ _ _ h => h) (Or.inl ⟨by rfl, ?_⟩) hHeld ?_ ?_
        rotate_left
        ·rintro w' ⟨s0, s1⟩
         go_simp
         with_reducible rfl
        rotate_left
        ·simp only [Act.put, List.setIfInBounds_toArray, List.set_cons_zero, List.set_cons_succ, i64_w, i32_w]
         rfl
        refine pu_ 4 18 (bt_ 11 127) HT_ ?_
        refine take_ (i := 7) (N := some 21) (v := ?_) (a' := ?_) (bt_ 11 255) rfl rfl (take_ofW HT_.out HW_.out (by kernel_rfl)) (fun _ _ _ h => h) (Or.inl ⟨by rfl, ?_⟩) hHeld ?_ ?_
        rotate_left
        ·rintro w' ⟨s0, s1⟩
         go_simp
         with_reducible rfl
        rotate_left
        ·simp only [Act.put, List.setIfInBounds_toArray, List.set_cons_zero, List.set_cons_succ, i64_w, i32_w]
         rfl
        refine pu_ 8 22 (bt_ 11 511) HT_ ?_
        refine one_ (i := 9) (N := some 23) (bt_ 11 1023) rfl rfl (one_of HT_.out (by kernel_rfl)) (by decide) (fun K hK => ?_)
        refine goes_ Try.func13 (by kernel_rfl) rfl #[.slice Ao29 t256.length co29, .int .i64 (Int.tmod (rd t259 0) 6), .int .i64 (Int.tmod (rd t259 1) 6)] (by rfl) rfl rfl (by (try simp only [List.map_toArray, List.map_cons, List.map_nil]); first | done | rfl | (simp only [List.length_drop, List.length_take]; rfl)) ?_
        with_reducible refine (impl_StepsBetween.calls k _ _ t256 (Int.tmod (rd t259 0) 6) (Int.tmod (rd t259 1) 6) t264 _ ?side1 ?side2 A8.out).mono ?_
        (case side1 => repeat (first | exact (Kd.R_reads' HO258.out).2.2 | (with_reducible refine Kd.C_alloc ?_ _) | (with_reducible refine Kd.C_drewN ?_ _) | (with_reducible refine Kd.C_drew ?_)))
        (case side2 => exact (Kd.R_reads' HO258.out).2.1)
        rintro e w30 ⟨rfl, hb⟩
        have HS0_ := (hb.cell (World.block_lt_of_cell? _ _ (hHeld.1))).trans (hHeld.1)
        have HS1_ := (hb.cell (World.block_lt_of_cell? _ _ (hHeld.2))).trans (hHeld.2)
        refine ⟨_, rfl, ?_⟩
        have n0_ := Aside0.mk (Kd.R_below (ra_ HO258.out) hb)
        have n1_ := Aside0.mk (Kd.R_below (ra_ HO261.out) hb)
        have n2_ := Aside0.mk (bs_ HB.out hb)
        clear HO258
        clear HO261
        clear HB
        have HO258 := n0_
        have HO261 := n1_
        have HB := n2_
        clear n0_ n1_ n2_
        (try clear hb)
        (try clear hb2)
        (try clear hk)
        (try clear hi)
        refine hK.out _ _ ⟨HS0_, HS1_⟩ (fun hHeld => ?_)
        clear hK K
        refine norm_ (a' := ?_) ?_ ?_
        rotate_left
        ·show Act.put _ (some 23) _ = _
         simp only [Act.put, List.setIfInBounds_toArray, List.set_cons_zero, List.set_cons_succ, i64_w, i32_w]
         rfl
        refine pu_ 10 5 (bt_ 11 2047) HT_ ?_
        refine done_ (done_of HT_.out (by kernel_rfl)) ?_
        try go_wp2
        have n0_ := Aside0.mk (Kd.R_drew HO258.out)
        have n1_ := Aside0.mk (Kd.R_drew HO261.out)
        have n2_ := Aside0.mk (below_drew1 HB.out)
        clear HO258
        clear HO261
        clear HB
        have HO258 := n0_
        have HO261 := n1_
        have HB := n2_
        clear n0_ n1_ n2_
        have p265 : 0 ≤ (1 : Int) := (by omega)
        have q265 : 1 < (t259.length : Int) := of_decide_eq_true dg_
        obtain ⟨ad265, e265, hx265_0⟩ := Kd.at_int (Kd.R_reads' HO261.out).2.2 1 p265 q265
        obtain rfl : ad262 = ad265 := (by injection e265)
        (try simp only [show (1 : Int).toNat = 1 from rfl, Nat.reduceMul, Nat.reduceEqDiff, Go.Addr.add, ↓reduceIte] at hx265_0)
        have qi265 : (1 < t259.length) = True := eq_true (by omega)
        (try rw [show ((1 : Int)).toNat = 1 from rfl] at hx265_0)
        replace p265 := eq_true p265
        replace q265 := eq_true q265
        have p266 : 0 ≤ (2 : Int) := (by omega)
        have q266 : 2 < (t259.length : Int) := of_decide_eq_true dg_
        obtain ⟨ad266, e266, hx266_0⟩ := Kd.at_int (Kd.R_reads' HO261.out).2.2 2 p266 q266
        obtain rfl : ad262 = ad266 := (by injection e266)
        (try simp only [show (2 : Int).toNat = 2 from rfl, Nat.reduceMul, Nat.reduceEqDiff, Go.Addr.add, ↓reduceIte] at hx266_0)
        have qi266 : (2 < t259.length) = True := eq_true (by omega)
        (try rw [show ((2 : Int)).toNat = 2 from rfl] at hx266_0)
        replace p266 := eq_true p266
        replace q266 := eq_true q266
        refine start_ (n := 11) (S := fun w' => w'.cell? ⟨ad262.block, ad262.off + 1, none⟩ = some (.int .i64 (rd t259 1)) ∧ w'.cell? ⟨ad262.block, ad262.off + 2, none⟩ = some (.int .i64 (rd t259 2))) (ds := []) #[false, false, false, false, false, false, false, false, false, false, false] (by kernel_rfl) rfl rfl ⟨hx265_0, hx266_0⟩ (fun hHeld => ?_); refine with_tabW laws_FnReach.tab6 laws_FnReach.bits6 (fun HT_ HW_ => ?_)
        generalize w30.drew = w31 at HO258 HO261 HB hx265_0 hx266_0 hHeld ⊢
        refine pu_ 0 24 (bt_ 11 1) HT_ ?_
        refine pu_ 1 25 (bt_ 11 3) HT_ ?_
        refine pu_ 2 26 (bt_ 11 7) HT_ ?_
        refine pu_ 5 29 (bt_ 11 39) HT_ ?_
        refine pu_ 6 30 (bt_ 11 103) HT_ ?_
        refine take_ (i := 3) (N := some 27) (v := ?_) (a' := ?_) (bt_ 11 111) rfl rfl (take_ofW HT_.out HW_.out (by kernel_rfl)) (fun _ _ _ h => h) (Or.inl ⟨by rfl, ?_⟩) hHeld ?_ ?_
        rotate_left
        ·rintro w' ⟨s0, s1⟩
         go_simp
         with_reducible rfl
        rotate_left
        ·simp only [Act.put, List.setIfInBounds_toArray, List.set_cons_zero, List.set_cons_succ, i64_w, i32_w]
         rfl
        refine pu_ 4 28 (bt_ 11 127) HT_ ?_
        refine take_ (i := 7) (N := some 31) (v := ?_) (a' := ?_) (bt_ 11 255) rfl rfl (take_ofW HT_.out HW_.out (by kernel_rfl)) (fun _ _ _ h => h) (Or.inl ⟨by rfl, ?_⟩) hHeld ?_ ?_
        rotate_left
        ·rintro w' ⟨s0, s1⟩
         go_simp
         with_reducible rfl
        rotate_left
        ·simp only [Act.put, List.setIfInBounds_toArray, List.set_cons_zero, List.set_cons_succ, i64_w, i32_w]
         rfl
        refine pu_ 8 32 (bt_ 11 511) HT_ ?_
        refine one_ (i := 9) (N := some 33) (bt_ 11 1023) rfl rfl (one_of HT_.out (by kernel_rfl)) (by decide) (fun K hK => ?_)
        refine goes_ Try.func13 (by kernel_rfl) rfl #[.slice Ao29 t256.length co29, .int .i64 (Int.tmod (rd t259 1) 6), .int .i64 (Int.tmod (rd t259 2) 6)] (by rfl) rfl rfl (by (try simp only [List.map_toArray, List.map_cons, List.map_nil]); first | done | rfl | (simp only [List.length_drop, List.length_take]; rfl)) ?_
        with_reducible refine (impl_StepsBetween.calls k _ _ t256 (Int.tmod (rd t259 1) 6) (Int.tmod (rd t259 2) 6) t267 _ ?side1 ?side2 A10.out).mono ?_
        (case side1 => repeat (first | exact (Kd.R_reads' HO258.out).2.2 | (with_reducible refine Kd.C_alloc ?_ _) | (with_reducible refine Kd.C_drewN ?_ _) | (with_reducible refine Kd.C_drew ?_)))
        (case side2 => exact (Kd.R_reads' HO258.out).2.1)
        rintro e w32 ⟨rfl, hb⟩
        have HS0_ := (hb.cell (World.block_lt_of_cell? _ _ (hHeld.1))).trans (hHeld.1)
        have HS1_ := (hb.cell (World.block_lt_of_cell? _ _ (hHeld.2))).trans (hHeld.2)
        refine ⟨_, rfl, ?_⟩
        have n0_ := Aside0.mk (Kd.R_below (ra_ HO258.out) hb)
        have n1_ := Aside0.mk (Kd.R_below (ra_ HO261.out) hb)
        have n2_ := Aside0.mk (bs_ HB.out hb)
        clear HO258
        clear HO261
        clear HB
        have HO258 := n0_
        have HO261 := n1_
        have HB := n2_
        clear n0_ n1_ n2_
        (try clear hb)
        (try clear hb2)
        (try clear hk)
        (try clear hi)
        refine hK.out _ _ ⟨HS0_, HS1_⟩ (fun hHeld => ?_)
        clear hK K
        refine norm_ (a' := ?_) ?_ ?_
        rotate_left
        ·show Act.put _ (some 33) _ = _
         simp only [Act.put, List.setIfInBounds_toArray, List.set_cons_zero, List.set_cons_succ, i64_w, i32_w]
         rfl
        refine pu_ 10 6 (bt_ 11 2047) HT_ ?_
        refine done_ (done_of HT_.out (by kernel_rfl)) ?_
        try go_wp2
        have n0_ := Aside0.mk (Kd.R_drew HO258.out)
        have n1_ := Aside0.mk (Kd.R_drew HO261.out)
        have n2_ := Aside0.mk (below_drew1 HB.out)
        clear HO258
        clear HO261
        clear HB
        have HO258 := n0_
        have HO261 := n1_
        have HB := n2_
        clear n0_ n1_ n2_
        have p268 : 0 ≤ (0 : Int) := (by omega)
        have q268 : 0 < (t259.length : Int) := of_decide_eq_true dg_
        obtain ⟨ad268, e268, hx268_0⟩ := Kd.at_int (Kd.R_reads' HO261.out).2.2 0 p268 q268
        obtain rfl : ad262 = ad268 := (by injection e268)
        have qi268 : (0 < t259.length) = True := eq_true (by omega)
        (try rw [show ((0 : Int)).toNat = 0 from rfl] at hx268_0)
        (try rw [Addr.add_zero'] at hx268_0)
        replace p268 := eq_true p268
        replace q268 := eq_true q268
        have p269 : 0 ≤ (2 : Int) := (by omega)
        have q269 : 2 < (t259.length : Int) := of_decide_eq_true dg_
        obtain ⟨ad269, e269, hx269_0⟩ := Kd.at_int (Kd.R_reads' HO261.out).2.2 2 p269 q269
        obtain rfl : ad262 = ad269 := (by injection e269)
        (try simp only [show (2 : Int).toNat = 2 from rfl, Nat.reduceMul, Nat.reduceEqDiff, Go.Addr.add, ↓reduceIte] at hx269_0)
        have qi269 : (2 < t259.length) = True := eq_true (by omega)
        (try rw [show ((2 : Int)).toNat = 2 from rfl] at hx269_0)
        replace p269 := eq_true p269
        replace q269 := eq_true q269
        refine start_ (n := 11) (S := fun w' => w'.cell? ad262 = some (.int .i64 (rd t259 0)) ∧ w'.cell? ⟨ad262.block, ad262.off + 2, none⟩ = some (.int .i64 (rd t259 2))) (ds := []) #[false, false, false, false, false, false, false, false, false, false, false] (by kernel_rfl) rfl rfl ⟨hx268_0, hx269_0⟩ (fun hHeld => ?_); refine with_tabW laws_FnReach.tab7 laws_FnReach.bits7 (fun HT_ HW_ => ?_)
        generalize w32.drew = w33 at HO258 HO261 HB hx268_0 hx269_0 hHeld ⊢
        refine pu_ 0 34 (bt_ 11 1) HT_ ?_
        refine pu_ 1 35 (bt_ 11 3) HT_ ?_
        refine pu_ 2 36 (bt_ 11 7) HT_ ?_
        refine pu_ 5 39 (bt_ 11 39) HT_ ?_
        refine pu_ 6 40 (bt_ 11 103) HT_ ?_
        refine take_ (i := 3) (N := some 37) (v := ?_) (a' := ?_) (bt_ 11 111) rfl rfl (take_ofW HT_.out HW_.out (by kernel_rfl)) (fun _ _ _ h => h) (Or.inl ⟨by rfl, ?_⟩) hHeld ?_ ?_
        rotate_left
        ·rintro w' ⟨s0, s1⟩
         go_simp
         with_reducible rfl
        rotate_left
        ·simp only [Act.put, List.setIfInBounds_toArray, List.set_cons_zero, List.set_cons_succ, i64_w, i32_w]
         rfl
        refine pu_ 4 38 (bt_ 11 127) HT_ ?_
        refine take_ (i := 7) (N := some 41) (v := ?_) (a' := ?_) (bt_ 11 255) rfl rfl (take_ofW HT_.out HW_.out (by kernel_rfl)) (fun _ _ _ h => h) (Or.inl ⟨by rfl, ?_⟩) hHeld ?_ ?_
        rotate_left
        ·rintro w' ⟨s0, s1⟩
         go_simp
         with_reducible rfl
        rotate_left
        ·simp only [Act.put, List.setIfInBounds_toArray, List.set_cons_zero, List.set_cons_succ, i64_w, i32_w]
         rfl
        refine pu_ 8 42 (bt_ 11 511) HT_ ?_
        refine one_ (i := 9) (N := some 43) (bt_ 11 1023) rfl rfl (one_of HT_.out (by kernel_rfl)) (by decide) (fun K hK => ?_)
        refine goes_ Try.func13 (by kernel_rfl) rfl #[.slice Ao29 t256.length co29, .int .i64 (Int.tmod (rd t259 0) 6), .int .i64 (Int.tmod (rd t259 2) 6)] (by rfl) rfl rfl (by (try simp only [List.map_toArray, List.map_cons, List.map_nil]); first | done | rfl | (simp only [List.length_drop, List.length_take]; rfl)) ?_
        with_reducible refine (impl_StepsBetween.calls k _ _ t256 (Int.tmod (rd t259 0) 6) (Int.tmod (rd t259 2) 6) t270 _ ?side1 ?side2 A11.out).mono ?_
        (case side1 => repeat (first | exact (Kd.R_reads' HO258.out).2.2 | (with_reducible refine Kd.C_alloc ?_ _) | (with_reducible refine Kd.C_drewN ?_ _) | (with_reducible refine Kd.C_drew ?_)))
        (case side2 => exact (Kd.R_reads' HO258.out).2.1)
        rintro e w34 ⟨rfl, hb⟩
        have HS0_ := (hb.cell (World.block_lt_of_cell? _ _ (hHeld.1))).trans (hHeld.1)
        have HS1_ := (hb.cell (World.block_lt_of_cell? _ _ (hHeld.2))).trans (hHeld.2)
        refine ⟨_, rfl, ?_⟩
        have n0_ := Aside0.mk (Kd.R_below (ra_ HO258.out) hb)
        have n1_ := Aside0.mk (Kd.R_below (ra_ HO261.out) hb)
        have n2_ := Aside0.mk (bs_ HB.out hb)
        clear HO258
        clear HO261
        clear HB
        have HO258 := n0_
        have HO261 := n1_
        have HB := n2_
        clear n0_ n1_ n2_
        (try clear hb)
        (try clear hb2)
        (try clear hk)
        (try clear hi)
        refine hK.out _ _ ⟨HS0_, HS1_⟩ (fun hHeld => ?_)
        clear hK K
        refine norm_ (a' := ?_) ?_ ?_
        rotate_left
        ·show Act.put _ (some 43) _ = _
         simp only [Act.put, List.setIfInBounds_toArray, List.set_cons_zero, List.set_cons_succ, i64_w, i32_w]
         rfl
        refine pu_ 10 7 (bt_ 11 2047) HT_ ?_
        refine done_ (done_of HT_.out (by kernel_rfl)) ?_
        try go_wp2
        go_ret
        exact ⟨fin_, bb_ HB.out⟩
       ·rw [if_neg c24] at H
        have c24b0 : decide (t267 < 0) = false := decide_eq_false c24
        clear c24
        by_cases c35 : t270 > 0
        ·rw [if_pos c35] at H
         have c35b0 : decide (0 < t270) = true := decide_eq_true c35
         clear c35
         obtain rfl := Option.some.inj H
         go_enter Try.func3, Try.ntmps3
         try go_wp2_with (first | ((with_reducible refine gate_callee (f := 10) rfl ?_); refine gm_ (some 9) Try.func10 #[.slice A0 l0.length c0] rfl ?_; (with_reducible refine (laws_big.calls _ _ l0 false _ ?side1 HC0.out A2.out).mono ?_); (case side1 => repeat (first | exact HR0.out | (with_reducible refine Kd.C_alloc ?_ _) | (with_reducible refine Kd.C_drewN ?_ _) | (with_reducible refine Kd.C_drew ?_))); rintro e w' ⟨rfl, ⟨nd, rfl⟩⟩; refine ⟨_, rfl, ?_⟩) | ((with_reducible refine gate_callee (f := 11) rfl ?_); refine gm_ (some 11) Try.func11 #[.slice A0 l0.length c0] rfl ?_; (with_reducible refine (spec_DrawDepends.calls k _ _ l0 t256 _ ?side1 HC0.out A4.out).mono ?_); (case side1 => repeat (first | exact HR0.out | (with_reducible refine Kd.C_alloc ?_ _) | (with_reducible refine Kd.C_drewN ?_ _) | (with_reducible refine Kd.C_drew ?_))); rintro e w36 ⟨v257, rfl, ho0, hb⟩; refine ⟨_, rfl, ?_⟩; have HO258 := Aside0.mk (Kd.R_lower ho0 (bz_ HB.out)); replace HB := Aside0.mk (bs_ HB.out hb); (try clear hb); (try clear ho0)) | ((with_reducible refine gate_callee (f := 12) rfl ?_); refine gm_ (some 13) Try.func12 #[.slice A0 l0.length c0] rfl ?_; (with_reducible refine (spec_DrawPlaces.calls k _ _ l0 t259 _ ?side1 HC0.out A5.out).mono ?_); (case side1 => exact cb_ HR0.out HB.out); rintro e w37 ⟨v260, rfl, ho0, hb⟩; refine ⟨_, rfl, ?_⟩; replace HO258 := Aside0.mk (Kd.R_below (ra_ HO258.out) hb); have HO261 := Aside0.mk (Kd.R_lower ho0 (bz_ HB.out)); replace HB := Aside0.mk (bs_ HB.out hb); (try clear hb); (try clear ho0)))
         have n0_ := Aside0.mk (Kd.R_drew HO258.out)
         have n1_ := Aside0.mk (Kd.R_drew HO261.out)
         have n2_ := Aside0.mk (below_drew1 HB.out)
         clear HO258
         clear HO261
         clear HB
         have HO258 := n0_
         have HO261 := n1_
         have HB := n2_
         clear n0_ n1_ n2_
         obtain ⟨Ao39, co39, eo39⟩ := Kd.R_slice HO261.out
         (first | subst eo39 | (injection eo39 with f1_ f2_ f3_; have f4_ := f1_.symm; have f5_ := f3_.symm; clear f1_ f2_ f3_; subst f4_; subst f5_))
         have p262 : 0 ≤ (0 : Int) := (by omega)
         have q262 : 0 < (t259.length : Int) := of_decide_eq_true dg_
         obtain ⟨ad262, e262, hx262_0⟩ := Kd.at_int (Kd.R_reads' HO261.out).2.2 0 p262 q262
         cases e262
         have qi262 : (0 < t259.length) = True := eq_true (by omega)
         (try rw [show ((0 : Int)).toNat = 0 from rfl] at hx262_0)
         (try rw [Addr.add_zero'] at hx262_0)
         replace p262 := eq_true p262
         replace q262 := eq_true q262
         have p263 : 0 ≤ (1 : Int) := (by omega)
         have q263 : 1 < (t259.length : Int) := of_decide_eq_true dg_
         obtain ⟨ad263, e263, hx263_0⟩ := Kd.at_int (Kd.R_reads' HO261.out).2.2 1 p263 q263
         obtain rfl : ad262 = ad263 := (by injection e263)
         (try simp only [show (1 : Int).toNat = 1 from rfl, Nat.reduceMul, Nat.reduceEqDiff, Go.Addr.add, ↓reduceIte] at hx263_0)
         have qi263 : (1 < t259.length) = True := eq_true (by omega)
         (try rw [show ((1 : Int)).toNat = 1 from rfl] at hx263_0)
         replace p263 := eq_true p263
         replace q263 := eq_true q263
         obtain ⟨Ao40, co40, eo40⟩ := Kd.R_slice HO258.out
         (first | subst eo40 | (injection eo40 with f1_ f2_ f3_; have f4_ := f1_.symm; have f5_ := f3_.symm; clear f1_ f2_ f3_; subst f4_; subst f5_))
         refine start_ (n := 11) (S := fun w' => w'.cell? ad262 = some (.int .i64 (rd t259 0)) ∧ w'.cell? ⟨ad262.block, ad262.off + 1, none⟩ = some (.int .i64 (rd t259 1))) (ds := []) #[false, false, false, false, false, false, false, false, false, false, false] (by kernel_rfl) rfl rfl ⟨hx262_0, hx263_0⟩ (fun hHeld => ?_); refine with_tabW laws_FnReach.tab5 laws_FnReach.bits5 (fun HT_ HW_ => ?_)
         generalize w37.drew = w38 at HO258 HO261 HB hx262_0 hx263_0 hHeld ⊢
         refine pu_ 0 14 (bt_ 11 1) HT_ ?_
         refine pu_ 1 15 (bt_ 11 3) HT_ ?_
         refine pu_ 2 16 (bt_ 11 7) HT_ ?_
         refine pu_ 5 19 (bt_ 11 39) HT_ ?_
         refine pu_ 6 20 (bt_ 11 103) HT_ ?_
         refine take_ (i := 3) (N := some 17) (v := ?_) (a' := ?_) (bt_ 11 111) rfl rfl (take_ofW HT_.out HW_.out (by kernel_rfl)) (fun _ _ _ h => h) (Or.inl ⟨by rfl, ?_⟩) hHeld ?_ ?_
         rotate_left
         ·rintro w' ⟨s0, s1⟩
          go_simp
          with_reducible rfl
         rotate_left
         ·simp only [Act.put, List.setIfInBounds_toArray, List.set_cons_zero, List.set_cons_succ, i64_w, i32_w]
          rfl
         refine pu_ 4 18 (bt_ 11 127) HT_ ?_
         refine take_ (i := 7) (N := some 21) (v := ?_) (a' := ?_) (bt_ 11 255) rfl rfl (take_ofW HT_.out HW_.out (by kernel_rfl)) (fun _ _ _ h => h) (Or.inl ⟨by rfl, ?_⟩) hHeld ?_ ?_
         rotate_left
         ·rintro w' ⟨s0, s1⟩
          go_simp
          with_reducible rfl
         rotate_left
         ·simp only [Act.put, List.setIfInBounds_toArray, List.set_cons_zero, List.set_cons_succ, i64_w, i32_w]
          rfl
         refine pu_ 8 22 (bt_ 11 511) HT_ ?_
         refine one_ (i := 9) (N := some 23) (bt_ 11 1023) rfl rfl (one_of HT_.out (by kernel_rfl)) (by decide) (fun K hK => ?_)
         refine goes_ Try.func13 (by kernel_rfl) rfl #[.slice Ao40 t256.length co40, .int .i64 (Int.tmod (rd t259 0) 6), .int .i64 (Int.tmod (rd t259 1) 6)] (by rfl) rfl rfl (by (try simp only [List.map_toArray, List.map_cons, List.map_nil]); first | done | rfl | (simp only [List.length_drop, List.length_take]; rfl)) ?_
         with_reducible refine (impl_StepsBetween.calls k _ _ t256 (Int.tmod (rd t259 0) 6) (Int.tmod (rd t259 1) 6) t264 _ ?side1 ?side2 A8.out).mono ?_
         (case side1 => repeat (first | exact (Kd.R_reads' HO258.out).2.2 | (with_reducible refine Kd.C_alloc ?_ _) | (with_reducible refine Kd.C_drewN ?_ _) | (with_reducible refine Kd.C_drew ?_)))
         (case side2 => exact (Kd.R_reads' HO258.out).2.1)
         rintro e w41 ⟨rfl, hb⟩
         have HS0_ := (hb.cell (World.block_lt_of_cell? _ _ (hHeld.1))).trans (hHeld.1)
         have HS1_ := (hb.cell (World.block_lt_of_cell? _ _ (hHeld.2))).trans (hHeld.2)
         refine ⟨_, rfl, ?_⟩
         have n0_ := Aside0.mk (Kd.R_below (ra_ HO258.out) hb)
         have n1_ := Aside0.mk (Kd.R_below (ra_ HO261.out) hb)
         have n2_ := Aside0.mk (bs_ HB.out hb)
         clear HO258
         clear HO261
         clear HB
         have HO258 := n0_
         have HO261 := n1_
         have HB := n2_
         clear n0_ n1_ n2_
         (try clear hb)
         (try clear hb2)
         (try clear hk)
         (try clear hi)
         refine hK.out _ _ ⟨HS0_, HS1_⟩ (fun hHeld => ?_)
         clear hK K
         refine norm_ (a' := ?_) ?_ ?_
         rotate_left
         ·show Act.put _ (some 23) _ = _
          simp only [Act.put, List.setIfInBounds_toArray, List.set_cons_zero, List.set_cons_succ, i64_w, i32_w]
          rfl
         refine pu_ 10 5 (bt_ 11 2047) HT_ ?_
         refine done_ (done_of HT_.out (by kernel_rfl)) ?_
         try go_wp2
         have n0_ := Aside0.mk (Kd.R_drew HO258.out)
         have n1_ := Aside0.mk (Kd.R_drew HO261.out)
         have n2_ := Aside0.mk (below_drew1 HB.out)
         clear HO258
         clear HO261
         clear HB
         have HO258 := n0_
         have HO261 := n1_
         have HB := n2_
         clear n0_ n1_ n2_
         have p265 : 0 ≤ (1 : Int) := (by omega)
         have q265 : 1 < (t259.length : Int) := of_decide_eq_true dg_
         obtain ⟨ad265, e265, hx265_0⟩ := Kd.at_int (Kd.R_reads' HO261.out).2.2 1 p265 q265
         obtain rfl : ad262 = ad265 := (by injection e265)
         (try simp only [show (1 : Int).toNat = 1 from rfl, Nat.reduceMul, Nat.reduceEqDiff, Go.Addr.add, ↓reduceIte] at hx265_0)
         have qi265 : (1 < t259.length) = True := eq_true (by omega)
         (try rw [show ((1 : Int)).toNat = 1 from rfl] at hx265_0)
         replace p265 := eq_true p265
         replace q265 := eq_true q265
         have p266 : 0 ≤ (2 : Int) := (by omega)
         have q266 : 2 < (t259.length : Int) := of_decide_eq_true dg_
         obtain ⟨ad266, e266, hx266_0⟩ := Kd.at_int (Kd.R_reads' HO261.out).2.2 2 p266 q266
         obtain rfl : ad262 = ad266 := (by injection e266)
         (try simp only [show (2 : Int).toNat = 2 from rfl, Nat.reduceMul, Nat.reduceEqDiff, Go.Addr.add, ↓reduceIte] at hx266_0)
         have qi266 : (2 < t259.length) = True := eq_true (by omega)
         (try rw [show ((2 : Int)).toNat = 2 from rfl] at hx266_0)
         replace p266 := eq_true p266
         replace q266 := eq_true q266
         refine start_ (n := 11) (S := fun w' => w'.cell? ⟨ad262.block, ad262.off + 1, none⟩ = some (.int .i64 (rd t259 1)) ∧ w'.cell? ⟨ad262.block, ad262.off + 2, none⟩ = some (.int .i64 (rd t259 2))) (ds := []) #[false, false, false, false, false, false, false, false, false, false, false] (by kernel_rfl) rfl rfl ⟨hx265_0, hx266_0⟩ (fun hHeld => ?_); refine with_tabW laws_FnReach.tab6 laws_FnReach.bits6 (fun HT_ HW_ => ?_)
         generalize w41.drew = w42 at HO258 HO261 HB hx265_0 hx266_0 hHeld ⊢
         refine pu_ 0 24 (bt_ 11 1) HT_ ?_
         refine pu_ 1 25 (bt_ 11 3) HT_ ?_
         refine pu_ 2 26 (bt_ 11 7) HT_ ?_
         refine pu_ 5 29 (bt_ 11 39) HT_ ?_
         refine pu_ 6 30 (bt_ 11 103) HT_ ?_
         refine take_ (i := 3) (N := some 27) (v := ?_) (a' := ?_) (bt_ 11 111) rfl rfl (take_ofW HT_.out HW_.out (by kernel_rfl)) (fun _ _ _ h => h) (Or.inl ⟨by rfl, ?_⟩) hHeld ?_ ?_
         rotate_left
         ·rintro w' ⟨s0, s1⟩
          go_simp
          with_reducible rfl
         rotate_left
         ·simp only [Act.put, List.setIfInBounds_toArray, List.set_cons_zero, List.set_cons_succ, i64_w, i32_w]
          rfl
         refine pu_ 4 28 (bt_ 11 127) HT_ ?_
         refine take_ (i := 7) (N := some 31) (v := ?_) (a' := ?_) (bt_ 11 255) rfl rfl (take_ofW HT_.out HW_.out (by kernel_rfl)) (fun _ _ _ h => h) (Or.inl ⟨by rfl, ?_⟩) hHeld ?_ ?_
         rotate_left
         ·rintro w' ⟨s0, s1⟩
          go_simp
          with_reducible rfl
         rotate_left
         ·simp only [Act.put, List.setIfInBounds_toArray, List.set_cons_zero, List.set_cons_succ, i64_w, i32_w]
          rfl
         refine pu_ 8 32 (bt_ 11 511) HT_ ?_
         refine one_ (i := 9) (N := some 33) (bt_ 11 1023) rfl rfl (one_of HT_.out (by kernel_rfl)) (by decide) (fun K hK => ?_)
         refine goes_ Try.func13 (by kernel_rfl) rfl #[.slice Ao40 t256.length co40, .int .i64 (Int.tmod (rd t259 1) 6), .int .i64 (Int.tmod (rd t259 2) 6)] (by rfl) rfl rfl (by (try simp only [List.map_toArray, List.map_cons, List.map_nil]); first | done | rfl | (simp only [List.length_drop, List.length_take]; rfl)) ?_
         with_reducible refine (impl_StepsBetween.calls k _ _ t256 (Int.tmod (rd t259 1) 6) (Int.tmod (rd t259 2) 6) t267 _ ?side1 ?side2 A10.out).mono ?_
         (case side1 => repeat (first | exact (Kd.R_reads' HO258.out).2.2 | (with_reducible refine Kd.C_alloc ?_ _) | (with_reducible refine Kd.C_drewN ?_ _) | (with_reducible refine Kd.C_drew ?_)))
         (case side2 => exact (Kd.R_reads' HO258.out).2.1)
         rintro e w43 ⟨rfl, hb⟩
         have HS0_ := (hb.cell (World.block_lt_of_cell? _ _ (hHeld.1))).trans (hHeld.1)
         have HS1_ := (hb.cell (World.block_lt_of_cell? _ _ (hHeld.2))).trans (hHeld.2)
         refine ⟨_, rfl, ?_⟩
         have n0_ := Aside0.mk (Kd.R_below (ra_ HO258.out) hb)
         have n1_ := Aside0.mk (Kd.R_below (ra_ HO261.out) hb)
         have n2_ := Aside0.mk (bs_ HB.out hb)
         clear HO258
         clear HO261
         clear HB
         have HO258 := n0_
         have HO261 := n1_
         have HB := n2_
         clear n0_ n1_ n2_
         (try clear hb)
         (try clear hb2)
         (try clear hk)
         (try clear hi)
         refine hK.out _ _ ⟨HS0_, HS1_⟩ (fun hHeld => ?_)
         clear hK K
         refine norm_ (a' := ?_) ?_ ?_
         rotate_left
         ·show Act.put _ (some 33) _ = _
          simp only [Act.put, List.setIfInBounds_toArray, List.set_cons_zero, List.set_cons_succ, i64_w, i32_w]
          rfl
         refine pu_ 10 6 (bt_ 11 2047) HT_ ?_
         refine done_ (done_of HT_.out (by kernel_rfl)) ?_
         try go_wp2
         have n0_ := Aside0.mk (Kd.R_drew HO258.out)
         have n1_ := Aside0.mk (Kd.R_drew HO261.out)
         have n2_ := Aside0.mk (below_drew1 HB.out)
         clear HO258
         clear HO261
         clear HB
         have HO258 := n0_
         have HO261 := n1_
         have HB := n2_
         clear n0_ n1_ n2_
         have p268 : 0 ≤ (0 : Int) := (by omega)
         have q268 : 0 < (t259.length : Int) := of_decide_eq_true dg_
         obtain ⟨ad268, e268, hx268_0⟩ := Kd.at_int (Kd.R_reads' HO261.out).2.2 0 p268 q268
         obtain rfl : ad262 = ad268 := (by injection e268)
         have qi268 : (0 < t259.length) = True := eq_true (by omega)
         (try rw [show ((0 : Int)).toNat = 0 from rfl] at hx268_0)
         (try rw [Addr.add_zero'] at hx268_0)
         replace p268 := eq_true p268
         replace q268 := eq_true q268
         have p269 : 0 ≤ (2 : Int) := (by omega)
         have q269 : 2 < (t259.length : Int) := of_decide_eq_true dg_
         obtain ⟨ad269, e269, hx269_0⟩ := Kd.at_int (Kd.R_reads' HO261.out).2.2 2 p269 q269
         obtain rfl : ad262 = ad269 := (by injection e269)
         (try simp only [show (2 : Int).toNat = 2 from rfl, Nat.reduceMul, Nat.reduceEqDiff, Go.Addr.add, ↓reduceIte] at hx269_0)
         have qi269 : (2 < t259.length) = True := eq_true (by omega)
         (try rw [show ((2 : Int)).toNat = 2 from rfl] at hx269_0)
         replace p269 := eq_true p269
         replace q269 := eq_true q269
         refine start_ (n := 11) (S := fun w' => w'.cell? ad262 = some (.int .i64 (rd t259 0)) ∧ w'.cell? ⟨ad262.block, ad262.off + 2, none⟩ = some (.int .i64 (rd t259 2))) (ds := []) #[false, false, false, false, false, false, false, false, false, false, false] (by kernel_rfl) rfl rfl ⟨hx268_0, hx269_0⟩ (fun hHeld => ?_); refine with_tabW laws_FnReach.tab7 laws_FnReach.bits7 (fun HT_ HW_ => ?_)
         generalize w43.drew = w44 at HO258 HO261 HB hx268_0 hx269_0 hHeld ⊢
         refine pu_ 0 34 (bt_ 11 1) HT_ ?_
         refine pu_ 1 35 (bt_ 11 3) HT_ ?_
         refine pu_ 2 36 (bt_ 11 7) HT_ ?_
         refine pu_ 5 39 (bt_ 11 39) HT_ ?_
         refine pu_ 6 40 (bt_ 11 103) HT_ ?_
         refine take_ (i := 3) (N := some 37) (v := ?_) (a' := ?_) (bt_ 11 111) rfl rfl (take_ofW HT_.out HW_.out (by kernel_rfl)) (fun _ _ _ h => h) (Or.inl ⟨by rfl, ?_⟩) hHeld ?_ ?_
         rotate_left
         ·rintro w' ⟨s0, s1⟩
          go_simp
          with_reducible rfl
         rotate_left
         ·simp only [Act.put, List.setIfInBounds_toArray, List.set_cons_zero, List.set_cons_succ, i64_w, i32_w]
          rfl
         refine pu_ 4 38 (bt_ 11 127) HT_ ?_
         refine take_ (i := 7) (N := some 41) (v := ?_) (a' := ?_) (bt_ 11 255) rfl rfl (take_ofW HT_.out HW_.out (by kernel_rfl)) (fun _ _ _ h => h) (Or.inl ⟨by rfl, ?_⟩) hHeld ?_ ?_
         rotate_left
         ·rintro w' ⟨s0, s1⟩
          go_simp
          with_reducible rfl
         rotate_left
         ·simp only [Act.put, List.setIfInBounds_toArray, List.set_cons_zero, List.set_cons_succ, i64_w, i32_w]
          rfl
         refine pu_ 8 42 (bt_ 11 511) HT_ ?_
         refine one_ (i := 9) (N := some 43) (bt_ 11 1023) rfl rfl (one_of HT_.out (by kernel_rfl)) (by decide) (fun K hK => ?_)
         refine goes_ Try.func13 (by kernel_rfl) rfl #[.slice Ao40 t256.length co40, .int .i64 (Int.tmod (rd t259 0) 6), .int .i64 (Int.tmod (rd t259 2) 6)] (by rfl) rfl rfl (by (try simp only [List.map_toArray, List.map_cons, List.map_nil]); first | done | rfl | (simp only [List.length_drop, List.length_take]; rfl)) ?_
         with_reducible refine (impl_StepsBetween.calls k _ _ t256 (Int.tmod (rd t259 0) 6) (Int.tmod (rd t259 2) 6) t270 _ ?side1 ?side2 A11.out).mono ?_
         (case side1 => repeat (first | exact (Kd.R_reads' HO258.out).2.2 | (with_reducible refine Kd.C_alloc ?_ _) | (with_reducible refine Kd.C_drewN ?_ _) | (with_reducible refine Kd.C_drew ?_)))
         (case side2 => exact (Kd.R_reads' HO258.out).2.1)
         rintro e w45 ⟨rfl, hb⟩
         have HS0_ := (hb.cell (World.block_lt_of_cell? _ _ (hHeld.1))).trans (hHeld.1)
         have HS1_ := (hb.cell (World.block_lt_of_cell? _ _ (hHeld.2))).trans (hHeld.2)
         refine ⟨_, rfl, ?_⟩
         have n0_ := Aside0.mk (Kd.R_below (ra_ HO258.out) hb)
         have n1_ := Aside0.mk (Kd.R_below (ra_ HO261.out) hb)
         have n2_ := Aside0.mk (bs_ HB.out hb)
         clear HO258
         clear HO261
         clear HB
         have HO258 := n0_
         have HO261 := n1_
         have HB := n2_
         clear n0_ n1_ n2_
         (try clear hb)
         (try clear hb2)
         (try clear hk)
         (try clear hi)
         refine hK.out _ _ ⟨HS0_, HS1_⟩ (fun hHeld => ?_)
         clear hK K
         refine norm_ (a' := ?_) ?_ ?_
         rotate_left
         ·show Act.put _ (some 43) _ = _
          simp only [Act.put, List.setIfInBounds_toArray, List.set_cons_zero, List.set_cons_succ, i64_w, i32_w]
          rfl
         refine pu_ 10 7 (bt_ 11 2047) HT_ ?_
         refine done_ (done_of HT_.out (by kernel_rfl)) ?_
         try go_wp2
         go_ret
         exact ⟨fin_, bb_ HB.out⟩
        ·rw [if_neg c35] at H
         exact absurd H (by simp)
    ·rw [if_neg c9] at H
     exact absurd H (by simp)
   ·rw [if_neg c7] at H
    exact absurd H (by simp)
  ·rw [if_neg c6] at H
   exact absurd H (by simp)

/-- THE ONE PURE STATEMENT of laws_FnReach: yours. -/
def laws_FnReach.Pure : Prop := ∀ (l0 : List Int), l0.length ≤ maxLen → l0.length * 1 ≤ 140737488351232 → (∀ x ∈ l0, (Lit.int .u8 x).wf = true) → ∃ k, laws_FnReach.f k l0 = some true
theorem laws_FnReach.walk (P : laws_FnReach.Pure) (a0 : Option Addr) (len0 cap0 : Nat) (z0 : List Int) (w : World) (w0 : (a0 = none ∧ len0 = 0 ∧ cap0 = 0 ∧ z0 = []) ∨ ∃ x, a0 = some x ∧ len0 ≤ cap0 ∧ cap0 ≤ maxLen ∧ z0.length = cap0 ∧ (∀ i, i < z0.length → w.cell? (x.add i) = some (.int .u8 (z0.getD i 0))) ∧ ∀ n ∈ z0, (Lit.int .u8 n).wf = true) (y0 : len0 * 1 ≤ 140737488351232) :
  Calls Try.prog 3 #[.slice a0 len0 cap0] w fun e w' => e = .returned (.bool true) ∧ Below w.heap.size w w' := by
 obtain ⟨l0, rfl, hr0, hm0, hw0, hc0⟩ := ReadsInt.ofRowC w0
 obtain ⟨k, h⟩ := P l0 hm0 y0 hw0
 refine (laws_FnReach.calls k _ _ l0 true w (Kd.C_of_reads (d := (0 : Int)) (h1 := fun _ => rfl) hr0) hc0 h).mono ?_
 rintro e w' ⟨rfl, hd⟩
 exact ⟨rfl, hd⟩

end Go.Proofs.Ytagmogkdlimofaa.PFnReach
-- thin
