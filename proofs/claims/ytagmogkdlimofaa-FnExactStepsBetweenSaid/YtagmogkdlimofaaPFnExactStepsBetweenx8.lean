/- Each function that the law comes to, as a plain function, with the proof that the call in the model gives what that function says (written by a program of this session out of the translation). No condition. -/
import Derived.Test.YtagmogkdlimofaaPFnExactStepsBetweenx0
import Derived.Test.YtagmogkdlimofaaPFnExactStepsBetweenx5
import Derived.Test.YtagmogkdlimofaaPFnExactStepsBetweenx7
namespace Go.Proofs.Ytagmogkdlimofaa.PFnExactStepsBetween
open Go.RowKit Go.Proofs.YtagmogkdlimofaaW.PrintWords Go.Proofs.YtagmogkdlimofaaW.PrintLast Go.Proofs.YtagmogkdlimofaaW.PrintMore
attribute [local go_sem] max2_int min2_int max_two min_two max_three min_three max_four min_four   -- for this text's walks alone
set_option linter.unusedVariables false
set_option linter.unusedSimpArgs false

/-! ### laws_eqDependS: function 17 -/
def laws_eqDependS.l0 : Nat → List (S44) → List (S44) → Int → Option (Bool)
 | 0, _, _, _ => none
 | k + 1, x0, x1, x5 => if x5 < (x0.length : Int) then (if 0 ≤ x5 then (if x5 < (x1.length : Int) then ((laws_eqDepend.f ((rd_T44 x0 x5).f0) ((rd_T44 x0 x5).f1) ((rd_T44 x1 x5).f0) ((rd_T44 x1 x5).f1)).bind fun t212 => (if t212 = true then (laws_eqDependS.l0 k x0 x1 (wrap64 (x5 + 1))) else (none))) else (none)) else (none)) else (some true)
def laws_eqDependS.f (k : Nat) (l0 : List (S44)) (l1 : List (S44)) : Option (Bool) := if (l0.length : Int) = (l1.length : Int) then (laws_eqDependS.l0 k l0 l1 0) else (none)
theorem laws_eqDependS.mono_l : ∀ k, (∀ y0 y1 y2, LeO (laws_eqDependS.l0 k y0 y1 y2) (laws_eqDependS.l0 (k + 1) y0 y1 y2))
 | 0 => fun _ _ _ r h => by simp [laws_eqDependS.l0] at h
 | k + 1 => by
  have ih0 := laws_eqDependS.mono_l k
  ·intro y0 y1 y2
   unfold laws_eqDependS.l0
   repeat' first
   | (with_reducible exact ih0 _ _ _)
   | (with_reducible exact LeO.refl _)
   | (with_reducible exact LeO.none _)
   | (with_reducible refine LeO.ite ?_ ?_)
   | (with_reducible refine LeO.bind ?_ (fun _ => ?_))
   | exact ih0 _ _ _
   | exact LeO.none _
   | refine LeO.ite ?_ ?_
   | refine LeO.bind ?_ (fun _ => ?_)
theorem laws_eqDependS.mono : ∀ a0 a1 k, LeO (laws_eqDependS.f k a0 a1) (laws_eqDependS.f (k + 1) a0 a1) := by
 intro a0 a1 k
 have ih0 := laws_eqDependS.mono_l k
 unfold laws_eqDependS.f
 repeat' first
   | (with_reducible exact ih0 _ _ _)
   | (with_reducible exact LeO.refl _)
   | (with_reducible exact LeO.none _)
   | (with_reducible refine LeO.ite ?_ ?_)
   | (with_reducible refine LeO.bind ?_ (fun _ => ?_))
   | exact ih0 _ _ _
   | exact LeO.none _
   | refine LeO.ite ?_ ?_
   | refine LeO.bind ?_ (fun _ => ?_)
def laws_eqDependS.T6 : Bool × List (List Nat × List Nat) := (true, [([], []), ([], []), ([0, 1], [0, 1]), ([2], [2]), ([], []), ([], []), ([4, 5], [4, 5]), ([6], [6]), ([3, 7], [3, 7]), ([8], [8])])
def laws_eqDependS.B6 : List Nat := [0, 0, 3, 7, 0, 0, 48, 112, 255, 511]
theorem laws_eqDependS.tab6 : rtab .any (opsOf Try.f17 6) = laws_eqDependS.T6 := by kernel_rfl
theorem laws_eqDependS.bits6 : waitsOk laws_eqDependS.T6.2 laws_eqDependS.B6 = true := by kernel_rfl
set_option maxHeartbeats 8000000 in
set_option maxRecDepth 100000 in
theorem laws_eqDependS.calls (k : Nat) (A0 : Option Addr) (c0 : Nat) (l0 : List (S44)) (A1 : Option Addr) (c1 : Nat) (l1 : List (S44)) (r : Bool) (w : World) (hr0 : Kd.C k44 w A0 l0.length l0) (hc0 : l0.length ≤ c0) (hr1 : Kd.C k44 w A1 l1.length l1) (hc1 : l1.length ≤ c1) (h : laws_eqDependS.f k l0 l1 = some r) :
  Calls Try.prog 17 #[.slice A0 l0.length c0, .slice A1 l1.length c1] w fun e w' => e = .returned (.bool r) ∧ Below w.heap.size w w' := by
 have hu44 := Try.underlying44
 have HR0 := Aside0.mk hr0
 have HC0 := Aside0.mk hc0
 clear hr0 hc0
 have HR1 := Aside0.mk hr1
 have HC1 := Aside0.mk hc1
 clear hr1 hc1
 have HB := Aside0.mk (Below.refl w.heap.size w)
 have H : (if (l0.length : Int) = (l1.length : Int) then (laws_eqDependS.l0 k l0 l1 0) else (none)) = some r := h
 clear h
 by_cases c3 : (l0.length : Int) = (l1.length : Int)
 ·rw [if_pos c3] at H
  have c3b0 : ((l0.length : Int) == (l1.length : Int)) = true := beq_iff_eq.mpr c3
  have c3b1 : ((l0.length : Int) != (l1.length : Int)) = false := bne_eq_false_iff_eq.mpr c3
  have c3b2 : (l0.length == l1.length) = true := by first | simpa using c3 | (simp at c3 ⊢; omega)
  clear c3
  have H' := Aside0.mk H
  clear H
  go_enter Try.func17, Try.ntmps17
  go_wp2
  go_loopg [5] k (fun kq v5 w' => ∃ (x5_1 : Int), v5 = .int .i64 x5_1 ∧ Aside0 (laws_eqDependS.l0 kq l0 l1 x5_1 = some r) ∧ Aside0 (kq ≤ k) ∧ Aside0 (Below w.heap.size w w'))
  case atStart => exact ⟨(0), ef_, H', ⟨Nat.le_refl _⟩, ⟨bb_ HB.out⟩⟩
  case round =>
   clear H'
   try clear c3
   try clear c3b0
   try clear c3b1
   try clear c3b2
   obtain ⟨x5_1, rfl, HA, HK1, HB⟩ := hrel
   cases gk with
   | zero => exact absurd HA.out (by simp [laws_eqDependS.l0])
   | succ k1 =>
    have H := HA.out
    clear HA
    simp only [laws_eqDependS.l0] at H
    by_cases c4 : x5_1 < (l0.length : Int)
    ·rw [if_pos c4] at H
     have c4b0 : decide (x5_1 < (l0.length : Int)) = true := decide_eq_true c4
     clear c4
     by_cases c5 : 0 ≤ x5_1
     ·rw [if_pos c5] at H
      have c5b0 : decide (0 ≤ x5_1) = true := decide_eq_true c5
      clear c5
      by_cases c6 : x5_1 < (l1.length : Int)
      ·rw [if_pos c6] at H
       have c6b0 : decide (x5_1 < (l1.length : Int)) = true := decide_eq_true c6
       clear c6
       replace H := Option.bind_eq_some_iff.mp H
       obtain ⟨t212, A70, H⟩ := H
       try dsimp only at H
       have A7 := Aside0.mk A70
       clear A70
       by_cases c8 : t212 = true
       ·subst c8
        rw [if_pos rfl] at H
        have H' := Aside0.mk H
        clear H
        try go_wp2
        have n0_ := Aside0.mk (below_drew1 HB.out)
        clear HB
        have HB := n0_
        clear n0_
        have p210 : 0 ≤ (x5_1 : Int) := of_decide_eq_true dg_
        have q210 : x5_1 < (l0.length : Int) := of_decide_eq_true dg_
        obtain ⟨ad210, e210, hx210_0, hx210_1⟩ := at_T44 HR0.out x5_1 p210 q210
        have hw210_1 := hx210_1
        have hw210_0 := hx210_0
        cases e210
        replace hx210_0 := (HB.out.cell (World.block_lt_of_cell? w _ hx210_0)).trans hx210_0
        replace hx210_1 := (HB.out.cell (World.block_lt_of_cell? w _ hx210_1)).trans hx210_1
        replace p210 := eq_true p210
        replace q210 := eq_true q210
        have p211 : 0 ≤ (x5_1 : Int) := of_decide_eq_true dg_
        have q211 : x5_1 < (l1.length : Int) := of_decide_eq_true dg_
        obtain ⟨ad211, e211, hx211_0, hx211_1⟩ := at_T44 HR1.out x5_1 p211 q211
        have hw211_1 := hx211_1
        have hw211_0 := hx211_0
        cases e211
        replace hx211_0 := (HB.out.cell (World.block_lt_of_cell? w _ hx211_0)).trans hx211_0
        replace hx211_1 := (HB.out.cell (World.block_lt_of_cell? w _ hx211_1)).trans hx211_1
        replace p211 := eq_true p211
        replace q211 := eq_true q211
        refine start_ (n := 10) (S := fun w' => w'.cell? (ad210.add ((x5_1).toNat * 2)) = some (.int .i64 ((rd_T44 l0 x5_1).f0)) ∧ w'.cell? ⟨(ad210.add ((x5_1).toNat * 2)).block, (ad210.add ((x5_1).toNat * 2)).off + 1, none⟩ = some (.int .i64 ((rd_T44 l0 x5_1).f1)) ∧ w'.cell? (ad211.add ((x5_1).toNat * 2)) = some (.int .i64 ((rd_T44 l1 x5_1).f0)) ∧ w'.cell? ⟨(ad211.add ((x5_1).toNat * 2)).block, (ad211.add ((x5_1).toNat * 2)).off + 1, none⟩ = some (.int .i64 ((rd_T44 l1 x5_1).f1))) (ds := []) #[false, false, false, false, false, false, false, false, false, false] (by kernel_rfl) rfl rfl ⟨((HB.out.cell (World.block_lt_of_cell? w _ hw210_0)).trans hw210_0), ((HB.out.cell (World.block_lt_of_cell? w _ hw210_1)).trans hw210_1), ((HB.out.cell (World.block_lt_of_cell? w _ hw211_0)).trans hw211_0), ((HB.out.cell (World.block_lt_of_cell? w _ hw211_1)).trans hw211_1)⟩ (fun hHeld => ?_); refine with_tabW laws_eqDependS.tab6 laws_eqDependS.bits6 (fun HT_ HW_ => ?_)
        generalize wr.drew = w9 at HB hx210_0 hx210_1 hx211_0 hx211_1 hHeld ⊢
        refine pu_ 0 17 (bt_ 10 1) HT_ ?_
        refine pu_ 1 18 (bt_ 10 3) HT_ ?_
        refine pu_ 2 19 (bt_ 10 7) HT_ ?_
        refine pu_ 4 21 (bt_ 10 23) HT_ ?_
        refine pu_ 5 22 (bt_ 10 55) HT_ ?_
        refine pu_ 6 23 (bt_ 10 119) HT_ ?_
        refine take_ (i := 3) (N := some 20) (v := ?_) (a' := ?_) (bt_ 10 127) rfl rfl (take_ofW HT_.out HW_.out (by kernel_rfl)) (fun _ _ _ h => h) (Or.inl ⟨by rfl, ?_⟩) hHeld ?_ ?_
        rotate_left
        ·rintro w' ⟨s0, s1, s2, s3⟩
         go_simp
         with_reducible rfl
        rotate_left
        ·simp only [Act.put, List.setIfInBounds_toArray, List.set_cons_zero, List.set_cons_succ, i64_w, i32_w]
         rfl
        refine take_ (i := 7) (N := some 24) (v := ?_) (a' := ?_) (bt_ 10 255) rfl rfl (take_ofW HT_.out HW_.out (by kernel_rfl)) (fun _ _ _ h => h) (Or.inl ⟨by rfl, ?_⟩) hHeld ?_ ?_
        rotate_left
        ·rintro w' ⟨s0, s1, s2, s3⟩
         go_simp
         with_reducible rfl
        rotate_left
        ·simp only [Act.put, List.setIfInBounds_toArray, List.set_cons_zero, List.set_cons_succ, i64_w, i32_w]
         rfl
        refine one_ (i := 8) (N := some 25) (bt_ 10 511) rfl rfl (one_of HT_.out (by kernel_rfl)) (by decide) (fun K hK => ?_)
        refine goes_ Try.func41 (by kernel_rfl) rfl #[.agg #[.int .i64 ((rd_T44 l0 x5_1).f0), .int .i64 ((rd_T44 l0 x5_1).f1)], .agg #[.int .i64 ((rd_T44 l1 x5_1).f0), .int .i64 ((rd_T44 l1 x5_1).f1)]] (by rfl) rfl rfl (by (try simp only [List.map_toArray, List.map_cons, List.map_nil]); first | done | rfl | (simp only [List.length_drop, List.length_take]; rfl)) ?_
        with_reducible refine (laws_eqDepend.calls ((rd_T44 l0 x5_1).f0) ((rd_T44 l0 x5_1).f1) ((rd_T44 l1 x5_1).f0) ((rd_T44 l1 x5_1).f1) true _ A7.out).mono ?_
        rintro e w10 ⟨rfl, hb⟩
        refine ⟨_, rfl, ?_⟩
        have n0_ := Aside0.mk (bs_ HB.out hb)
        clear HB
        have HB := n0_
        clear n0_
        (try clear hb)
        (try clear hb2)
        (try clear hk)
        (try clear hi)
        refine hK.out _ _ ⟨((HB.out.cell (World.block_lt_of_cell? w _ hw210_0)).trans hw210_0), ((HB.out.cell (World.block_lt_of_cell? w _ hw210_1)).trans hw210_1), ((HB.out.cell (World.block_lt_of_cell? w _ hw211_0)).trans hw211_0), ((HB.out.cell (World.block_lt_of_cell? w _ hw211_1)).trans hw211_1)⟩ (fun hHeld => ?_)
        clear hK K
        refine norm_ (a' := ?_) ?_ ?_
        rotate_left
        ·show Act.put _ (some 25) _ = _
         simp only [Act.put, List.setIfInBounds_toArray, List.set_cons_zero, List.set_cons_succ, i64_w, i32_w]
         rfl
        refine pu_ 9 26 (bt_ 10 1023) HT_ ?_
        refine done_ (done_of HT_.out (by kernel_rfl)) ?_
        try go_wp2
        go_roundg k1
        case measure => have := HK1.out; omega
        case rel => exact ⟨(wrap64 (x5_1 + 1)), ef_, H', ⟨by have := HK1.out; omega⟩, ⟨bb_ HB.out⟩⟩
       ·replace c8 := Bool.eq_false_iff.mpr c8
        subst c8
        rw [if_neg (show ¬ (false = true) by decide)] at H
        exact absurd H (by simp)
      ·rw [if_neg c6] at H
       exact absurd H (by simp)
     ·rw [if_neg c5] at H
      exact absurd H (by simp)
    ·rw [if_neg c4] at H
     have c4b0 : decide (x5_1 < (l0.length : Int)) = false := decide_eq_false c4
     clear c4
     obtain rfl := Option.some.inj H
     go_wp2
     go_ret
     exact ⟨fin_, bb_ HB.out⟩
 ·rw [if_neg c3] at H
  exact absurd H (by simp)

/-! ### laws_FnExactStepsBetween: function 4 -/
def laws_FnExactStepsBetween.f (k : Nat) (l0 : List (S53)) (a1 : Int) (a2 : Int) : Option (Bool) := (laws_szDependS.f l0 1048576).bind fun t213 => (if t213 < 0 then (some true) else ((laws_toDependS.f k l0).bind fun t214 => ((spec_StepsBetween.f k t214 a1 a2).bind fun t217 => ((laws_toDependS.f k l0).bind fun t218 => ((impl_StepsBetween.f k t218 a1 a2).bind fun t221 => (if t221 = t217 then ((laws_toDependS.f k l0).bind fun t222 => ((laws_eqDependS.f k t218 t222).bind fun t225 => (if t225 = true then (some true) else (none)))) else (none)))))))
theorem laws_FnExactStepsBetween.mono : ∀ a0 a1 a2 k, LeO (laws_FnExactStepsBetween.f k a0 a1 a2) (laws_FnExactStepsBetween.f (k + 1) a0 a1 a2) := by
 intro a0 a1 a2 k
 unfold laws_FnExactStepsBetween.f
 repeat' first
   | (with_reducible exact impl_StepsBetween.mono _ _ _ _)
   | (with_reducible exact laws_eqDependS.mono _ _ _)
   | (with_reducible exact laws_toDependS.mono _ _)
   | (with_reducible exact spec_StepsBetween.mono _ _ _ _)
   | (with_reducible exact LeO.refl _)
   | (with_reducible exact LeO.none _)
   | (with_reducible refine LeO.ite ?_ ?_)
   | (with_reducible refine LeO.bind ?_ (fun _ => ?_))
   | exact impl_StepsBetween.mono _ _ _ _
   | exact laws_eqDependS.mono _ _ _
   | exact laws_toDependS.mono _ _
   | exact spec_StepsBetween.mono _ _ _ _
   | exact LeO.none _
   | refine LeO.ite ?_ ?_
   | refine LeO.bind ?_ (fun _ => ?_)
theorem laws_FnExactStepsBetween.e0 {P : Prop} (h : P := by
 go_enter Try.func4, Try.ntmps4
 go_wp2_with (first | ((with_reducible refine gate_callee (f := 14) rfl ?_); refine gm_ (some 13) Try.func14 #[.slice A0 l0.length c0, .int .i64 1048576] rfl ?_; (with_reducible refine (laws_szDependS.calls _ _ l0 1048576 t213 _ ?side1 HC0.out A4.out).mono ?_); (case side1 => repeat (first | exact HR0.out | (with_reducible refine Kd.C_alloc ?_ _) | (with_reducible refine Kd.C_drewN ?_ _) | (with_reducible refine Kd.C_drew ?_))); rintro e w' ⟨rfl, ⟨nd, rfl⟩⟩; refine ⟨_, rfl, ?_⟩) | ((with_reducible refine gate_callee (f := 16) rfl ?_); refine gm_ (some 17) Try.func16 #[.slice A0 l0.length c0] rfl ?_; (with_reducible refine (laws_toDependS.calls k _ _ l0 t214 _ ?side1 HC0.out A6.out).mono ?_); (case side1 => repeat (first | exact HR0.out | (with_reducible refine Kd.C_alloc ?_ _) | (with_reducible refine Kd.C_drewN ?_ _) | (with_reducible refine Kd.C_drew ?_))); rintro e w_0 ⟨v215, rfl, ho0, hb⟩; refine ⟨_, rfl, ?_⟩; have HO216 := Aside0.mk (Kd.R_lower ho0 (bz_ HB.out)); replace HB := Aside0.mk (bs_ HB.out hb); (try clear hb); (try clear ho0); obtain ⟨Ao15, co15, eo15⟩ := Kd.R_slice HO216.out; subst eo15) | ((with_reducible refine gate_callee (f := 15) rfl ?_); refine gm_ (some 20) Try.func15 #[.slice Ao15 t214.length co15, .int .i64 a1, .int .i64 a2] rfl ?_; (with_reducible refine (spec_StepsBetween.calls k _ _ t214 a1 a2 t217 _ ?side1 ?side2 A7.out).mono ?_); (case side1 => repeat (first | exact (Kd.R_reads' HO216.out).2.2 | (with_reducible refine Kd.C_alloc ?_ _) | (with_reducible refine Kd.C_drewN ?_ _) | (with_reducible refine Kd.C_drew ?_))); (case side2 => exact (Kd.R_reads' HO216.out).2.1); rintro e w_0 ⟨rfl, hb⟩; refine ⟨_, rfl, ?_⟩; replace HO216 := Aside0.mk (Kd.R_below (ra_ HO216.out) hb); replace HB := Aside0.mk (bs_ HB.out hb); (try clear hb)) | ((with_reducible refine gate_callee (f := 16) rfl ?_); refine gm_ (some 22) Try.func16 #[.slice A0 l0.length c0] rfl ?_; (with_reducible refine (laws_toDependS.calls k _ _ l0 t218 _ ?side1 HC0.out A8.out).mono ?_); (case side1 => exact cb_ HR0.out HB.out); rintro e w_0 ⟨v219, rfl, ho0, hb⟩; refine ⟨_, rfl, ?_⟩; have HO220 := Aside0.mk (Kd.R_lower (Kd.R_new' ho0 (rl_ HO216.out)) (bz_ HB.out)); replace HO216 := Aside0.mk (Kd.R_elder' (ra_ HO216.out) (Kd.R_base ho0) hb); replace HB := Aside0.mk (bs_ HB.out hb); (try clear hb); (try clear ho0); obtain ⟨Ao18, co18, eo18⟩ := Kd.R_slice HO220.out; subst eo18) | ((with_reducible refine gate_callee (f := 13) rfl ?_); refine gm_ (some 26) Try.func13 #[.slice Ao18 t218.length co18, .int .i64 a1, .int .i64 a2] rfl ?_; (with_reducible refine (impl_StepsBetween.calls k _ _ t218 a1 a2 t221 _ ?side1 ?side2 A9.out).mono ?_); (case side1 => repeat (first | exact (Kd.R_reads' HO220.out).2.2 | (with_reducible refine Kd.C_alloc ?_ _) | (with_reducible refine Kd.C_drewN ?_ _) | (with_reducible refine Kd.C_drew ?_))); (case side2 => exact (Kd.R_reads' HO220.out).2.1); rintro e w_0 ⟨rfl, hb⟩; refine ⟨_, rfl, ?_⟩; replace HO216 := Aside0.mk (Kd.R_below (ra_ HO216.out) hb); replace HO220 := Aside0.mk (Kd.R_below (ra_ HO220.out) hb); replace HB := Aside0.mk (bs_ HB.out hb); (try clear hb)) | ((with_reducible refine gate_callee (f := 16) rfl ?_); refine gm_ (some 32) Try.func16 #[.slice A0 l0.length c0] rfl ?_; (with_reducible refine (laws_toDependS.calls k _ _ l0 t222 _ ?side1 HC0.out A11.out).mono ?_); (case side1 => exact cb_ HR0.out HB.out); rintro e w_0 ⟨v223, rfl, ho0, hb⟩; refine ⟨_, rfl, ?_⟩; have HO224 := Aside0.mk (Kd.R_lower (Kd.R_new' (Kd.R_new' ho0 (rl_ HO216.out)) (rl_ HO220.out)) (bz_ HB.out)); replace HO216 := Aside0.mk (Kd.R_elder' (ra_ HO216.out) (Kd.R_base ho0) hb); replace HO220 := Aside0.mk (Kd.R_elder' (ra_ HO220.out) (Kd.R_base ho0) hb); replace HB := Aside0.mk (bs_ HB.out hb); (try clear hb); (try clear ho0); obtain ⟨Ao21, co21, eo21⟩ := Kd.R_slice HO224.out; subst eo21) | ((with_reducible refine gate_callee (f := 17) rfl ?_); refine gm_ (some 33) Try.func17 #[.slice Ao18 t218.length co18, .slice Ao21 t222.length co21] rfl ?_; (with_reducible refine (laws_eqDependS.calls k _ _ t218 _ _ t222 _ _ ?side1 ?side2 ?side3 ?side4 A12.out).mono ?_); (case side1 => repeat (first | exact (Kd.R_reads' HO220.out).2.2 | (with_reducible refine Kd.C_alloc ?_ _) | (with_reducible refine Kd.C_drewN ?_ _) | (with_reducible refine Kd.C_drew ?_))); (case side2 => exact (Kd.R_reads' HO220.out).2.1); (case side3 => repeat (first | exact (Kd.R_reads' HO224.out).2.2 | (with_reducible refine Kd.C_alloc ?_ _) | (with_reducible refine Kd.C_drewN ?_ _) | (with_reducible refine Kd.C_drew ?_))); (case side4 => exact (Kd.R_reads' HO224.out).2.1); rintro e w_0 ⟨rfl, hb⟩; refine ⟨_, rfl, ?_⟩; replace HO216 := Aside0.mk (Kd.R_below (ra_ HO216.out) hb); replace HO220 := Aside0.mk (Kd.R_below (ra_ HO220.out) hb); replace HO224 := Aside0.mk (Kd.R_below (ra_ HO224.out) hb); replace HB := Aside0.mk (bs_ HB.out hb); (try clear hb)))
 go_ret
 exact ⟨fin_, bb_ HB.out⟩) : P := h
set_option maxHeartbeats 8000000 in
set_option maxRecDepth 100000 in
theorem laws_FnExactStepsBetween.calls (k : Nat) (A0 : Option Addr) (c0 : Nat) (l0 : List (S53)) (a1 : Int) (a2 : Int) (r : Bool) (w : World) (hr0 : Kd.C k53 w A0 l0.length l0) (hc0 : l0.length ≤ c0) (h : laws_FnExactStepsBetween.f k l0 a1 a2 = some r) :
  Calls Try.prog 4 #[.slice A0 l0.length c0, .int .i64 a1, .int .i64 a2] w fun e w' => e = .returned (.bool r) ∧ Below w.heap.size w w' := by
 have HR0 := Aside0.mk hr0
 have HC0 := Aside0.mk hc0
 clear hr0 hc0
 have HB := Aside0.mk (Below.refl w.heap.size w)
 have H : ((laws_szDependS.f l0 1048576).bind fun t213 => (if t213 < 0 then (some true) else ((laws_toDependS.f k l0).bind fun t214 => ((spec_StepsBetween.f k t214 a1 a2).bind fun t217 => ((laws_toDependS.f k l0).bind fun t218 => ((impl_StepsBetween.f k t218 a1 a2).bind fun t221 => (if t221 = t217 then ((laws_toDependS.f k l0).bind fun t222 => ((laws_eqDependS.f k t218 t222).bind fun t225 => (if t225 = true then (some true) else (none)))) else (none)))))))) = some r := h
 clear h
 replace H := Option.bind_eq_some_iff.mp H
 obtain ⟨t213, A40, H⟩ := H
 try dsimp only at H
 have A4 := Aside0.mk A40
 clear A40
 by_cases c5 : t213 < 0
 ·rw [if_pos c5] at H
  have c5b0 : decide (t213 < 0) = true := decide_eq_true c5
  clear c5
  obtain rfl := Option.some.inj H
  exact laws_FnExactStepsBetween.e0
 ·rw [if_neg c5] at H
  have c5b0 : decide (t213 < 0) = false := decide_eq_false c5
  clear c5
  replace H := Option.bind_eq_some_iff.mp H
  obtain ⟨t214, A60, H⟩ := H
  try dsimp only at H
  have A6 := Aside0.mk A60
  clear A60
  replace H := Option.bind_eq_some_iff.mp H
  obtain ⟨t217, A70, H⟩ := H
  try dsimp only at H
  have A7 := Aside0.mk A70
  clear A70
  replace H := Option.bind_eq_some_iff.mp H
  obtain ⟨t218, A80, H⟩ := H
  try dsimp only at H
  have A8 := Aside0.mk A80
  clear A80
  replace H := Option.bind_eq_some_iff.mp H
  obtain ⟨t221, A90, H⟩ := H
  try dsimp only at H
  have A9 := Aside0.mk A90
  clear A90
  by_cases c10 : t221 = t217
  ·rw [if_pos c10] at H
   have c10b0 : (t221 == t217) = true := beq_iff_eq.mpr c10
   have c10b1 : (t221 != t217) = false := bne_eq_false_iff_eq.mpr c10
   clear c10
   replace H := Option.bind_eq_some_iff.mp H
   obtain ⟨t222, A110, H⟩ := H
   try dsimp only at H
   have A11 := Aside0.mk A110
   clear A110
   replace H := Option.bind_eq_some_iff.mp H
   obtain ⟨t225, A120, H⟩ := H
   try dsimp only at H
   have A12 := Aside0.mk A120
   clear A120
   by_cases c13 : t225 = true
   ·subst c13
    rw [if_pos rfl] at H
    obtain rfl := Option.some.inj H
    exact laws_FnExactStepsBetween.e0
   ·replace c13 := Bool.eq_false_iff.mpr c13
    subst c13
    rw [if_neg (show ¬ (false = true) by decide)] at H
    exact absurd H (by simp)
  ·rw [if_neg c10] at H
   exact absurd H (by simp)

end Go.Proofs.Ytagmogkdlimofaa.PFnExactStepsBetween
-- thin
