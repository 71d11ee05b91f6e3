/- Each function that the law comes to, as a plain function, with the proof that the call in the model gives what that function says (written by a program of this session out of the translation). No condition. -/
import Derived.Test.YtimdefbpoddoaaaPFnExactRingIsSafex0
namespace Go.Proofs.Ytimdefbpoddoaaa.PFnExactRingIsSafe
open Go.RowKit Go.Proofs.YtimdefbpoddoaaaW.PrintWords Go.Proofs.YtimdefbpoddoaaaW.PrintLast Go.Proofs.YtimdefbpoddoaaaW.PrintMore
attribute [local go_sem] max2_int min2_int max_two min_two max_three min_three max_four min_four   -- for this text's walks alone
set_option linter.unusedVariables false
set_option linter.unusedSimpArgs false

/-! ### spec_l01In: function 61 -/
def spec_l01In.f (a0 : Int) (a1 : Int) (a2 : Int) : Option (Bool) := if a0 ≥ a1 then (some (decide (a0 ≤ a2))) else (some false)
theorem spec_l01In.e0 {P : Prop} (h : P := by
 go_enter Try.func61, Try.ntmps61
 go_wp2
 go_ret
 exact ⟨by first | rfl | (simp; done) | (simp [*]; done), by repeat (first | exact Drawn0.refl _ | apply Drawn0.step)⟩) : P := h
set_option maxHeartbeats 8000000 in
set_option maxRecDepth 100000 in
theorem spec_l01In.calls (a0 : Int) (a1 : Int) (a2 : Int) (r : Bool) (w : World) (h : spec_l01In.f a0 a1 a2 = some r) :
  Calls Try.prog 61 #[.int .i64 a0, .int .i64 a1, .int .i64 a2] w fun e w' => e = .returned (.bool r) ∧ Drawn0 w w' := by
 have H : (if a0 ≥ a1 then (some (decide (a0 ≤ a2))) else (some false)) = some r := h
 clear h
 by_cases c4 : a0 ≥ a1
 ·rw [if_pos c4] at H
  have c4b0 : decide (a1 ≤ a0) = true := decide_eq_true c4
  clear c4
  obtain rfl := Option.some.inj H
  exact spec_l01In.e0
 ·rw [if_neg c4] at H
  have c4b0 : decide (a1 ≤ a0) = false := decide_eq_false c4
  clear c4
  obtain rfl := Option.some.inj H
  exact spec_l01In.e0

/-! ### spec_l13Ok: function 102 -/
def spec_l13Ok.f (a0 : Int) (a1 : Int) (a2 : Int) : Option (Bool) := (spec_l01In.f a0 2 12).bind fun t101 => (if t101 = true then ((spec_l01In.f a1 0 (wrap64 (a0 - 1))).bind fun t102 => (if t102 = true then ((spec_l01In.f a2 0 (wrap64 (a0 - 1))).bind fun t103 => (some t103)) else (some false))) else (some false))
theorem spec_l13Ok.e0 {P : Prop} (h : P := by
 go_enter Try.func102, Try.ntmps102
 go_wp2_with (first | ((with_reducible refine gate_callee (f := 61) rfl ?_); refine gm_ (some 8) Try.func61 #[.int .i64 a0, .int .i64 2, .int .i64 12] rfl ?_; (with_reducible refine (spec_l01In.calls a0 2 12 _ _ A4.out).mono ?_); rintro e w' ⟨rfl, ⟨nd, rfl⟩⟩; refine ⟨_, rfl, ?_⟩) | (go_at_call 61; (with_reducible refine (spec_l01In.calls a1 0 (wrap64 (a0 - 1)) _ _ A6.out).mono ?_); rintro e w' ⟨rfl, ⟨nd, rfl⟩⟩) | (go_at_call 61; (with_reducible refine (spec_l01In.calls a2 0 (wrap64 (a0 - 1)) t103 _ A8.out).mono ?_); rintro e w' ⟨rfl, ⟨nd, rfl⟩⟩))
 go_ret
 exact ⟨by first | rfl | (simp; done) | (simp [*]; done), by repeat (first | exact Drawn0.refl _ | apply Drawn0.step)⟩) : P := h
set_option maxHeartbeats 8000000 in
set_option maxRecDepth 100000 in
theorem spec_l13Ok.calls (a0 : Int) (a1 : Int) (a2 : Int) (r : Bool) (w : World) (h : spec_l13Ok.f a0 a1 a2 = some r) :
  Calls Try.prog 102 #[.int .i64 a0, .int .i64 a1, .int .i64 a2] w fun e w' => e = .returned (.bool r) ∧ Drawn0 w w' := by
 have H : ((spec_l01In.f a0 2 12).bind fun t101 => (if t101 = true then ((spec_l01In.f a1 0 (wrap64 (a0 - 1))).bind fun t102 => (if t102 = true then ((spec_l01In.f a2 0 (wrap64 (a0 - 1))).bind fun t103 => (some t103)) else (some false))) else (some false))) = some r := h
 clear h
 replace H := Option.bind_eq_some_iff.mp H
 obtain ⟨t101, A40, H⟩ := H
 try dsimp only at H
 have A4 := Aside0.mk A40
 clear A40
 by_cases c5 : t101 = true
 ·subst c5
  rw [if_pos rfl] at H
  replace H := Option.bind_eq_some_iff.mp H
  obtain ⟨t102, A60, H⟩ := H
  try dsimp only at H
  have A6 := Aside0.mk A60
  clear A60
  by_cases c7 : t102 = true
  ·subst c7
   rw [if_pos rfl] at H
   replace H := Option.bind_eq_some_iff.mp H
   obtain ⟨t103, A80, H⟩ := H
   try dsimp only at H
   have A8 := Aside0.mk A80
   clear A80
   obtain rfl := Option.some.inj H
   exact spec_l13Ok.e0
  ·replace c7 := Bool.eq_false_iff.mpr c7
   subst c7
   rw [if_neg (show ¬ (false = true) by decide)] at H
   obtain rfl := Option.some.inj H
   exact spec_l13Ok.e0
 ·replace c5 := Bool.eq_false_iff.mpr c5
  subst c5
  rw [if_neg (show ¬ (false = true) by decide)] at H
  obtain rfl := Option.some.inj H
  exact spec_l13Ok.e0

/-! ### spec_RingHops: function 62 -/
def spec_RingHops.l0 : Nat → Int → Int → Bool → List (S92) → Int → Int → Option ((List (S92)))
 | 0, _, _, _, _, _, _ => none
 | k + 1, x0, x2, x3, x9, x10, x11 => if x11 = x2 then (some x9) else (if x9.length < 8796093022208 then ((some (x9 ++ [(⟨x11, x10⟩ : S92)] : List (S92))).bind fun y108 => (if x11 = (wrap64 (x0 - 1)) then (if x3 = true then (if x0 = 0 then (none) else (spec_RingHops.l0 k x0 x2 x3 y108 1 (Int.tmod (wrap64 (x11 + 1)) x0))) else (if x0 = 0 then (none) else (spec_RingHops.l0 k x0 x2 x3 y108 x10 (Int.tmod (wrap64 (x11 + 1)) x0)))) else (if x0 = 0 then (none) else (spec_RingHops.l0 k x0 x2 x3 y108 x10 (Int.tmod (wrap64 (x11 + 1)) x0))))) else (none))
def spec_RingHops.f (k : Nat) (a0 : Int) (a1 : Int) (a2 : Int) (a3 : Bool) : Option ((List (S92))) := (some (([] : List (S92)) : List (S92))).bind fun y104 => ((spec_l13Ok.f a0 a1 a2).bind fun t107 => (if t107 = true then (spec_RingHops.l0 k a0 a2 a3 y104 0 a1) else (some y104)))
theorem spec_RingHops.mono_l : ∀ k, (∀ y0 y1 y2 y3 y4 y5, LeO (spec_RingHops.l0 k y0 y1 y2 y3 y4 y5) (spec_RingHops.l0 (k + 1) y0 y1 y2 y3 y4 y5))
 | 0 => fun _ _ _ _ _ _ r h => by simp [spec_RingHops.l0] at h
 | k + 1 => by
  have ih0 := spec_RingHops.mono_l k
  ·intro y0 y1 y2 y3 y4 y5
   unfold spec_RingHops.l0
   repeat' first
   | (with_reducible exact ih0 _ _ _ _ _ _)
   | (with_reducible exact LeO.refl _)
   | (with_reducible exact LeO.none _)
   | (with_reducible refine LeO.ite ?_ ?_)
   | (with_reducible refine LeO.bind ?_ (fun _ => ?_))
   | exact ih0 _ _ _ _ _ _
   | exact LeO.none _
   | refine LeO.ite ?_ ?_
   | refine LeO.bind ?_ (fun _ => ?_)
theorem spec_RingHops.mono : ∀ a0 a1 a2 a3 k, LeO (spec_RingHops.f k a0 a1 a2 a3) (spec_RingHops.f (k + 1) a0 a1 a2 a3) := by
 intro a0 a1 a2 a3 k
 have ih0 := spec_RingHops.mono_l k
 unfold spec_RingHops.f
 repeat' first
   | (with_reducible exact ih0 _ _ _ _ _ _)
   | (with_reducible exact LeO.refl _)
   | (with_reducible exact LeO.none _)
   | (with_reducible refine LeO.ite ?_ ?_)
   | (with_reducible refine LeO.bind ?_ (fun _ => ?_))
   | exact ih0 _ _ _ _ _ _
   | exact LeO.none _
   | refine LeO.ite ?_ ?_
   | refine LeO.bind ?_ (fun _ => ?_)
theorem spec_RingHops.e0 {P : Prop} (h : P := by
 go_wp2_with (first | ((with_reducible refine gate_builtin (b := .append) (xs := #[.tmp 27, .tmp 31]) rfl ?_); at_builtin; refine Kd.R_append k92 (w0 := w) w.heap.size rfl (.tmp 27) (.tmp 31) 88 92 (.agg #[(.int .i64 0), (.int .i64 0)]) 16 rfl Try.underlying88 info92 rfl (by decide) (by omega) u9 x9_1 (⟨x11_1, x10_1⟩ : S92) [.int .i64 x11_1, .int .i64 x10_1] (fun _ => True) (fun _ => False) rfl rfl ?aP (fun _ hk => hk.elim) ?aF ?aO ?aB ?aS ?aL ?_; (case aP => exact k92_mkM _ _ _ (⟨x11_1, x10_1⟩ : S92)); (case aB => exact (by repeat (first | (with_reducible first | exact HB.out | apply below_alloc | apply pw_below_drewN | apply below_drew1) | exact HB.out))); (case aF => exact (fun _ _ => trivial)); (case aO => exact (ra_ HO_9.out)); (case aS => exact (bz_ HB.out)); (case aL => have := LMc10.out; omega); intro v109 w_0 ho hb hg hat; rw [← Ny108.out] at ho; have n0_ := Aside0.mk (hb); have n1_ := Aside0.mk (ho); clear HB; clear HO_9; have HB := n0_; have HO110 := n1_; clear n0_ n1_; clear ho hb hg hat))
 go_roundg k1
 case measure => have := HK1.out; omega
 case rel => exact ⟨(y108), (x10_1), (Int.tmod (wrap64 (x11_1 + 1)) a0), ef_, ef_, H', ⟨by have := HK1.out; omega⟩, ⟨by (with_reducible repeat (first | apply Kd.R_alloc | apply Kd.R_drewN | apply Kd.R_drew)); exact HO110.out⟩, ⟨bb_ HB.out⟩⟩) : P := h
set_option maxHeartbeats 8000000 in
set_option maxRecDepth 100000 in
theorem spec_RingHops.calls (k : Nat) (a0 : Int) (a1 : Int) (a2 : Int) (a3 : Bool) (r : List (S92)) (w : World) (h : spec_RingHops.f k a0 a1 a2 a3 = some r) :
  Calls Try.prog 62 #[.int .i64 a0, .int .i64 a1, .int .i64 a2, .bool a3] w fun e w' => ∃ v0_ : Value, e = .returned (v0_) ∧ Kd.R k92 92 w' w.heap.size (fun _ => True) v0_ r ∧ Below w.heap.size w w' := by
 have hu92 := Try.underlying92
 have HB := Aside0.mk (Below.refl w.heap.size w)
 have H : ((some (([] : List (S92)) : List (S92))).bind fun y104 => ((spec_l13Ok.f a0 a1 a2).bind fun t107 => (if t107 = true then (spec_RingHops.l0 k a0 a2 a3 y104 0 a1) else (some y104)))) = some r := h
 clear h
 obtain ⟨y104, hy104⟩ : ∃ y_ : List (S92), y_ = (([] : List (S92))) := ⟨_, rfl⟩
 replace H : ((spec_l13Ok.f a0 a1 a2).bind fun t107 => (if t107 = true then (spec_RingHops.l0 k a0 a2 a3 y104 0 a1) else (some y104))) = some r := by first | (rw [hy104]; with_reducible exact H) | (have H2_ := (Option.bind_some _ _).symm.trans H; rw [hy104]; with_reducible exact H2_) | (have H2_ := (Option.bind_some _ _).symm.trans H; with_reducible exact H2_) | with_reducible exact H | (rw [hy104]; exact H) | exact H
 have Ny104 := Aside0.mk hy104
 clear hy104
 replace H := Option.bind_eq_some_iff.mp H
 obtain ⟨t107, A50, H⟩ := H
 try dsimp only at H
 have A5 := Aside0.mk A50
 clear A50
 by_cases c6 : t107 = true
 ·subst c6
  rw [if_pos rfl] at H
  have H' := Aside0.mk H
  clear H
  go_enter Try.func62, Try.ntmps62
  go_wp2_with (first | ((with_reducible refine gate_dst (N := 12) rfl ?_); refine Kd.R_lit k92 _ 92 ?hg (N := 12) ?hd (xs := ([] : List (S92))) (inner := []) (ok := fun _ => True) (okp := fun _ => True) ?hr ?hp (fun _ hk => hk) trivial (Below.refl _ _) (Nat.le_refl _) (by simp) ?_; (case hd => rfl); (case hg => rfl); (case hr => first | (go_simp; done) | (go_simp; rfl)); (case hp => exact (Reps.none _ _)); intro v105 w7 ho8 hb hg_ hnew_; clear hg_ hnew_; (first | rw [← Ny104.out] at ho8 | (simp only [Int.reduceToNat] at ho8; rw [← Ny104.out] at ho8)); have HO106 := Aside0.mk (Kd.R_lower ho8 (bz_ HB.out)); replace HB := Aside0.mk (bs_ HB.out hb); clear hb ho8) | ((with_reducible refine gate_callee (f := 102) rfl ?_); refine gm_ (some 16) Try.func102 #[.int .i64 a0, .int .i64 a1, .int .i64 a2] rfl ?_; (with_reducible refine (spec_l13Ok.calls a0 a1 a2 true _ A5.out).mono ?_); rintro e w' ⟨rfl, ⟨nd, rfl⟩⟩; refine ⟨_, rfl, ?_⟩))
  go_loopg [9, 10, 11] k (fun kq v9 v10 v11 w' => ∃ (x9_1 : List (S92)) (x10_1 : Int) (x11_1 : Int), v10 = .int .i64 x10_1 ∧ v11 = .int .i64 x11_1 ∧ Aside0 (spec_RingHops.l0 kq a0 a2 a3 x9_1 x10_1 x11_1 = some r) ∧ Aside0 (kq ≤ k) ∧ Aside0 (Kd.R k92 92 w' w.heap.size (fun _ => True) v9 x9_1) ∧ Aside0 (Below w.heap.size w w'))
  case atStart => exact ⟨(y104), (0), (a1), ef_, ef_, H', ⟨Nat.le_refl _⟩, ⟨by (with_reducible repeat (first | apply Kd.R_alloc | apply Kd.R_drewN | apply Kd.R_drew)); exact HO106.out⟩, ⟨bb_ HB.out⟩⟩
  case round =>
   clear H'
   try clear c6
   obtain ⟨x9_1, x10_1, x11_1, rfl, rfl, HA, HK1, HO_9, HB⟩ := hrel
   cases gk with
   | zero => exact absurd HA.out (by simp [spec_RingHops.l0])
   | succ k1 =>
    have H := HA.out
    clear HA
    simp only [spec_RingHops.l0] at H
    by_cases c9 : x11_1 = a2
    ·rw [if_pos c9] at H
     have c9b0 : (x11_1 == a2) = true := beq_iff_eq.mpr c9
     have c9b1 : (x11_1 != a2) = false := bne_eq_false_iff_eq.mpr c9
     clear c9
     obtain rfl := Option.some.inj H
     go_wp2
     go_ret
     exact ⟨_, fin_, by (with_reducible repeat (first | apply Kd.R_alloc | apply Kd.R_drewN | apply Kd.R_drew)); exact HO_9.out, bb_ HB.out⟩
    ·rw [if_neg c9] at H
     have c9b0 : (x11_1 == a2) = false := beq_eq_false_iff_ne.mpr c9
     have c9b1 : (x11_1 != a2) = true := bne_iff_ne.mpr c9
     by_cases c10 : x9_1.length < 8796093022208
     ·rw [if_pos c10] at H
      have LMc10 := Aside0.mk c10
      clear c10
      obtain ⟨y108, hy108⟩ : ∃ y_ : List (S92), y_ = (x9_1 ++ [(⟨x11_1, x10_1⟩ : S92)]) := ⟨_, rfl⟩
      replace H : (if x11_1 = (wrap64 (a0 - 1)) then (if a3 = true then (if a0 = 0 then (none) else (spec_RingHops.l0 k1 a0 a2 a3 y108 1 (Int.tmod (wrap64 (x11_1 + 1)) a0))) else (if a0 = 0 then (none) else (spec_RingHops.l0 k1 a0 a2 a3 y108 x10_1 (Int.tmod (wrap64 (x11_1 + 1)) a0)))) else (if a0 = 0 then (none) else (spec_RingHops.l0 k1 a0 a2 a3 y108 x10_1 (Int.tmod (wrap64 (x11_1 + 1)) a0)))) = some r := by first | (rw [hy108]; with_reducible exact H) | (have H2_ := (Option.bind_some _ _).symm.trans H; rw [hy108]; with_reducible exact H2_) | (have H2_ := (Option.bind_some _ _).symm.trans H; with_reducible exact H2_) | with_reducible exact H | (rw [hy108]; exact H) | exact H
      have Ny108 := Aside0.mk hy108
      clear hy108
      by_cases c11 : x11_1 = (wrap64 (a0 - 1))
      ·rw [if_pos c11] at H
       have c11b0 : (x11_1 == (wrap64 (a0 - 1))) = true := beq_iff_eq.mpr c11
       have c11b1 : (x11_1 != (wrap64 (a0 - 1))) = false := bne_eq_false_iff_eq.mpr c11
       clear c11
       by_cases c12 : a3 = true
       ·subst c12
        rw [if_pos rfl] at H
        by_cases c13 : a0 = 0
        ·rw [if_pos c13] at H
         exact absurd H (by simp)
        ·rw [if_neg c13] at H
         have c13b0 : (a0 == 0) = false := beq_eq_false_iff_ne.mpr c13
         have c13b1 : (a0 != 0) = true := bne_iff_ne.mpr c13
         have H' := Aside0.mk H
         clear H
         go_wp2_with (first | ((with_reducible refine gate_builtin (b := .append) (xs := #[.tmp 27, .tmp 31]) rfl ?_); at_builtin; refine Kd.R_append k92 (w0 := w) w.heap.size rfl (.tmp 27) (.tmp 31) 88 92 (.agg #[(.int .i64 0), (.int .i64 0)]) 16 rfl Try.underlying88 info92 rfl (by decide) (by omega) u9 x9_1 (⟨x11_1, x10_1⟩ : S92) [.int .i64 x11_1, .int .i64 x10_1] (fun _ => True) (fun _ => False) rfl rfl ?aP (fun _ hk => hk.elim) ?aF ?aO ?aB ?aS ?aL ?_; (case aP => exact k92_mkM _ _ _ (⟨x11_1, x10_1⟩ : S92)); (case aB => exact (by repeat (first | (with_reducible first | exact HB.out | apply below_alloc | apply pw_below_drewN | apply below_drew1) | exact HB.out))); (case aF => exact (fun _ _ => trivial)); (case aO => exact (ra_ HO_9.out)); (case aS => exact (bz_ HB.out)); (case aL => have := LMc10.out; omega); intro v109 w14 ho hb hg hat; rw [← Ny108.out] at ho; have n0_ := Aside0.mk (hb); have n1_ := Aside0.mk (ho); clear HB; clear HO_9; have HB := n0_; have HO110 := n1_; clear n0_ n1_; clear ho hb hg hat))
         go_roundg k1
         case measure => have := HK1.out; omega
         case rel => exact ⟨(y108), (1), (Int.tmod (wrap64 (x11_1 + 1)) a0), ef_, ef_, H', ⟨by have := HK1.out; omega⟩, ⟨by (with_reducible repeat (first | apply Kd.R_alloc | apply Kd.R_drewN | apply Kd.R_drew)); exact HO110.out⟩, ⟨bb_ HB.out⟩⟩
       ·replace c12 := Bool.eq_false_iff.mpr c12
        subst c12
        rw [if_neg (show ¬ (false = true) by decide)] at H
        by_cases c15 : a0 = 0
        ·rw [if_pos c15] at H
         exact absurd H (by simp)
        ·rw [if_neg c15] at H
         have c15b0 : (a0 == 0) = false := beq_eq_false_iff_ne.mpr c15
         have c15b1 : (a0 != 0) = true := bne_iff_ne.mpr c15
         have H' := Aside0.mk H
         clear H
         exact spec_RingHops.e0
      ·rw [if_neg c11] at H
       have c11b0 : (x11_1 == (wrap64 (a0 - 1))) = false := beq_eq_false_iff_ne.mpr c11
       have c11b1 : (x11_1 != (wrap64 (a0 - 1))) = true := bne_iff_ne.mpr c11
       by_cases c17 : a0 = 0
       ·rw [if_pos c17] at H
        exact absurd H (by simp)
       ·rw [if_neg c17] at H
        have c17b0 : (a0 == 0) = false := beq_eq_false_iff_ne.mpr c17
        have c17b1 : (a0 != 0) = true := bne_iff_ne.mpr c17
        have H' := Aside0.mk H
        clear H
        exact spec_RingHops.e0
     ·rw [if_neg c10] at H
      exact absurd H (by simp)
 ·replace c6 := Bool.eq_false_iff.mpr c6
  subst c6
  rw [if_neg (show ¬ (false = true) by decide)] at H
  obtain rfl := Option.some.inj H
  go_enter Try.func62, Try.ntmps62
  go_wp2_with (first | ((with_reducible refine gate_dst (N := 12) rfl ?_); refine Kd.R_lit k92 _ 92 ?hg (N := 12) ?hd (xs := ([] : List (S92))) (inner := []) (ok := fun _ => True) (okp := fun _ => True) ?hr ?hp (fun _ hk => hk) trivial (Below.refl _ _) (Nat.le_refl _) (by simp) ?_; (case hd => rfl); (case hg => rfl); (case hr => first | (go_simp; done) | (go_simp; rfl)); (case hp => exact (Reps.none _ _)); intro v105 w19 ho20 hb hg_ hnew_; clear hg_ hnew_; (first | rw [← Ny104.out] at ho20 | (simp only [Int.reduceToNat] at ho20; rw [← Ny104.out] at ho20)); have HO106 := Aside0.mk (Kd.R_lower ho20 (bz_ HB.out)); replace HB := Aside0.mk (bs_ HB.out hb); clear hb ho20) | ((with_reducible refine gate_callee (f := 102) rfl ?_); refine gm_ (some 16) Try.func102 #[.int .i64 a0, .int .i64 a1, .int .i64 a2] rfl ?_; (with_reducible refine (spec_l13Ok.calls a0 a1 a2 false _ A5.out).mono ?_); rintro e w' ⟨rfl, ⟨nd, rfl⟩⟩; refine ⟨_, rfl, ?_⟩))
  go_ret
  exact ⟨_, fin_, by (with_reducible repeat (first | apply Kd.R_alloc | apply Kd.R_drewN | apply Kd.R_drew)); exact HO106.out, bb_ HB.out⟩

/-! ### spec_l08Less: function 103 -/
def spec_l08Less.f (a0_0 : Int) (a0_1 : Int) (a1_0 : Int) (a1_1 : Int) : Option (Bool) := if a0_0 < a1_0 then (some true) else (if a0_0 = a1_0 then (some (decide (a0_1 < a1_1))) else (some false))
theorem spec_l08Less.e0 {P : Prop} (h : P := by
 go_enter Try.func103, Try.ntmps103
 go_wp2_with (first | ((with_reducible refine gate_dst (N := 2) rfl ?_); refine box_event ?hg (N := 2) ?hd (cs := #[.int .i64 a0_0, .int .i64 a0_1]) (t := 94) ?hr ?_; (case hd => rfl); (case hg => rfl); (case hr => first | (go_simp; done) | (go_simp; rfl)); intro gb111 hg w_0 hbox hb; have BK111 := Aside0.mk (hbox); have GW111 := Aside0.mk ((by rw [hg]; exact (bz_ HB.out) : w.heap.size ≤ gb111)); have GE111 := Aside0.mk ((by rw [hg]; exact (bz_ HB.out) : w.heap.size ≤ gb111)); replace HB := Aside0.mk (bs_ HB.out hb); clear hb hbox hg) | ((with_reducible refine gate_dst (N := 3) rfl ?_); refine box_event ?hg (N := 3) ?hd (cs := #[.int .i64 a1_0, .int .i64 a1_1]) (t := 94) ?hr ?_; (case hd => rfl); (case hg => rfl); (case hr => first | (go_simp; done) | (go_simp; rfl)); intro gb112 hg w_0 hbox hb; have BK112 := Aside0.mk (hbox); have GW112 := Aside0.mk ((by rw [hg]; exact (bz_ HB.out) : w.heap.size ≤ gb112)); have GE112 := Aside0.mk ((by rw [hg]; exact (bz_ HB.out) : w.heap.size ≤ gb112)); replace HB := Aside0.mk (bs_ HB.out hb); have NB111_112 := Aside0.mk ((by rw [hg]; exact Nat.ne_of_lt (bl_ BK111.out) : gb111 ≠ gb112)); have NB112_111 := Aside0.mk ((by rw [hg]; exact Nat.ne_of_gt (bl_ BK111.out) : gb112 ≠ gb111)); replace BK111 := Aside0.mk (bk_ BK111.out hb); clear hb hbox hg; have hnb_ := NB111_112.out; have hnc_ := NB112_111.out; obtain ⟨hcz_0, hcz_1, hfz_0, hfz_1⟩ := cz2_ BK111.out; obtain ⟨hcz__0, hcz__1, hfz__0, hfz__1⟩ := cz2_ BK112.out))
 go_ret
 exact ⟨fin_, bb_ HB.out⟩) : P := h
set_option maxHeartbeats 8000000 in
set_option maxRecDepth 100000 in
theorem spec_l08Less.calls (a0_0 : Int) (a0_1 : Int) (a1_0 : Int) (a1_1 : Int) (r : Bool) (w : World) (h : spec_l08Less.f a0_0 a0_1 a1_0 a1_1 = some r) :
  Calls Try.prog 103 #[.agg #[.int .i64 a0_0, .int .i64 a0_1], .agg #[.int .i64 a1_0, .int .i64 a1_1]] w fun e w' => e = .returned (.bool r) ∧ Below w.heap.size w w' := by
 have hu94 := Try.underlying94
 have HB := Aside0.mk (Below.refl w.heap.size w)
 have H : (if a0_0 < a1_0 then (some true) else (if a0_0 = a1_0 then (some (decide (a0_1 < a1_1))) else (some false))) = some r := h
 clear h
 by_cases c3 : a0_0 < a1_0
 ·rw [if_pos c3] at H
  have c3b0 : decide (a0_0 < a1_0) = true := decide_eq_true c3
  clear c3
  obtain rfl := Option.some.inj H
  exact spec_l08Less.e0
 ·rw [if_neg c3] at H
  have c3b0 : decide (a0_0 < a1_0) = false := decide_eq_false c3
  clear c3
  by_cases c9 : a0_0 = a1_0
  ·rw [if_pos c9] at H
   have c9b0 : (a0_0 == a1_0) = true := beq_iff_eq.mpr c9
   have c9b1 : (a0_0 != a1_0) = false := bne_eq_false_iff_eq.mpr c9
   clear c9
   obtain rfl := Option.some.inj H
   exact spec_l08Less.e0
  ·rw [if_neg c9] at H
   have c9b0 : (a0_0 == a1_0) = false := beq_eq_false_iff_ne.mpr c9
   have c9b1 : (a0_0 != a1_0) = true := bne_iff_ne.mpr c9
   obtain rfl := Option.some.inj H
   exact spec_l08Less.e0

end Go.Proofs.Ytimdefbpoddoaaa.PFnExactRingIsSafe
-- thin
