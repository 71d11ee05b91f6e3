/- Each function that the law comes to, as a plain function, with the proof that the call in the model gives what that function says (written by a program of this session out of the translation). No condition. -/
import Derived.Test.YtffkmajlelhiaaaPFnHopsx0
import Derived.Test.YtffkmajlelhiaaaPFnHopsx1
namespace Go.Proofs.Ytffkmajlelhiaaa.PFnHops
open Go.RowKit Go.Proofs.YtffkmajlelhiaaaW.PrintWords Go.Proofs.YtffkmajlelhiaaaW.PrintLast Go.Proofs.YtffkmajlelhiaaaW.PrintMore
attribute [local go_sem] max2_int min2_int max_two min_two max_three min_three max_four min_four   -- for this text's walks alone
set_option linter.unusedVariables false
set_option linter.unusedSimpArgs false

/-! ### impl_RingHops: function 51 -/
def impl_RingHops.l0 : Nat → Int → Int → Bool → List (S70) → Int → Int → Option ((List (S70)))
  | 0, _, _, _, _, _, _ => none
  | k + 1, x0, x2, x3, x9, x10, x11 => if x11 = x2 then (some x9) else (if x9.length < 8796093022208 then ((some (x9 ++ [(⟨x11, x10⟩ : S70)] : List (S70))).bind fun y151 => (if x3 = true then (if x11 = (wrap64 (x0 - 1)) then (if x0 = 0 then (none) else (impl_RingHops.l0 k x0 x2 x3 y151 1 (Int.tmod (wrap64 (x11 + 1)) x0))) else (if x0 = 0 then (none) else (impl_RingHops.l0 k x0 x2 x3 y151 x10 (Int.tmod (wrap64 (x11 + 1)) x0)))) else (if x0 = 0 then (none) else (impl_RingHops.l0 k x0 x2 x3 y151 x10 (Int.tmod (wrap64 (x11 + 1)) x0))))) else (none))
def impl_RingHops.f (k : Nat) (a0 : Int) (a1 : Int) (a2 : Int) (a3 : Bool) : Option ((List (S70))) := (some (([] : List (S70)) : List (S70))).bind fun y144 => ((impl_isRing.f k a0 (([a1, a2] : List Int))).bind fun t150 => (if t150 = true then (impl_RingHops.l0 k a0 a2 a3 y144 0 a1) else (some y144)))
theorem impl_RingHops.mono_l : ∀ k, (∀ y0 y1 y2 y3 y4 y5, LeO (impl_RingHops.l0 k y0 y1 y2 y3 y4 y5) (impl_RingHops.l0 (k + 1) y0 y1 y2 y3 y4 y5))
  | 0 => fun _ _ _ _ _ _ r h => by simp [impl_RingHops.l0] at h
  | k + 1 => by
    have ih0 := impl_RingHops.mono_l k
    · intro y0 y1 y2 y3 y4 y5
      unfold impl_RingHops.l0
      repeat' first
      | (with_reducible exact ih0 _ _ _ _ _ _)
      | (with_reducible exact impl_isRing.mono _ _ _)
      | (with_reducible exact LeO.refl _)
      | (with_reducible exact LeO.none _)
      | (with_reducible refine LeO.ite ?_ ?_)
      | (with_reducible refine LeO.bind ?_ (fun _ => ?_))
      | exact ih0 _ _ _ _ _ _
      | exact impl_isRing.mono _ _ _
      | exact LeO.none _
      | refine LeO.ite ?_ ?_
      | refine LeO.bind ?_ (fun _ => ?_)
theorem impl_RingHops.mono : ∀ a0 a1 a2 a3 k, LeO (impl_RingHops.f k a0 a1 a2 a3) (impl_RingHops.f (k + 1) a0 a1 a2 a3) := by
  intro a0 a1 a2 a3 k
  have ih0 := impl_RingHops.mono_l k
  unfold impl_RingHops.f
  repeat' first
      | (with_reducible exact ih0 _ _ _ _ _ _)
      | (with_reducible exact impl_isRing.mono _ _ _)
      | (with_reducible exact LeO.refl _)
      | (with_reducible exact LeO.none _)
      | (with_reducible refine LeO.ite ?_ ?_)
      | (with_reducible refine LeO.bind ?_ (fun _ => ?_))
      | exact ih0 _ _ _ _ _ _
      | exact impl_isRing.mono _ _ _
      | exact LeO.none _
      | refine LeO.ite ?_ ?_
      | refine LeO.bind ?_ (fun _ => ?_)
set_option maxHeartbeats 8000000 in
set_option maxRecDepth 100000 in
theorem impl_RingHops.calls (k : Nat) (a0 : Int) (a1 : Int) (a2 : Int) (a3 : Bool) (r : List (S70)) (w : World) (h : impl_RingHops.f k a0 a1 a2 a3 = some r) :
    Calls Try.prog 51 #[.int .i64 a0, .int .i64 a1, .int .i64 a2, .bool a3] w fun e w' => ∃ v0_ : Value, e = .returned (v0_) ∧ Kd.R k70 70 w' w.heap.size (fun _ => True) v0_ r ∧ Below w.heap.size w w' := by
  have hu70 := Try.underlying70
  have HB := Aside0.mk (Below.refl w.heap.size w)
  have H : ((some (([] : List (S70)) : List (S70))).bind fun y144 => ((impl_isRing.f k a0 (([a1, a2] : List Int))).bind fun t150 => (if t150 = true then (impl_RingHops.l0 k a0 a2 a3 y144 0 a1) else (some y144)))) = some r := h
  clear h
  obtain ⟨y144, hy144⟩ : ∃ y_ : List (S70), y_ = (([] : List (S70))) := ⟨_, rfl⟩
  replace H : ((impl_isRing.f k a0 (([a1, a2] : List Int))).bind fun t150 => (if t150 = true then (impl_RingHops.l0 k a0 a2 a3 y144 0 a1) else (some y144))) = some r := by first | (rw [hy144]; with_reducible exact H) | (have H2_ := (Option.bind_some _ _).symm.trans H; rw [hy144]; with_reducible exact H2_) | (have H2_ := (Option.bind_some _ _).symm.trans H; with_reducible exact H2_) | with_reducible exact H | (rw [hy144]; exact H) | exact H
  have Ny144 := Aside0.mk hy144
  clear hy144
  obtain ⟨y147, hy147⟩ : ∃ y_ : List Int, y_ = (([a1, a2] : List Int)) := ⟨_, rfl⟩
  replace H : ((impl_isRing.f k a0 y147).bind fun t150 => (if t150 = true then (impl_RingHops.l0 k a0 a2 a3 y144 0 a1) else (some y144))) = some r := by first | (rw [hy147]; with_reducible exact H) | (have H2_ := (Option.bind_some _ _).symm.trans H; rw [hy147]; with_reducible exact H2_) | (have H2_ := (Option.bind_some _ _).symm.trans H; with_reducible exact H2_) | with_reducible exact H | (rw [hy147]; exact H) | exact H
  have Ny147 := Aside0.mk hy147
  clear hy147
  replace H := Option.bind_eq_some_iff.mp H
  obtain ⟨t150, A50, H⟩ := H
  replace H : (if t150 = true then (impl_RingHops.l0 k a0 a2 a3 y144 0 a1) else (some y144)) = some r := H
  have A5 := Aside0.mk A50
  clear A50
  by_cases c6 : t150 = true
  · subst c6
    have H1 : (impl_RingHops.l0 k a0 a2 a3 y144 0 a1) = some r := by rw [if_pos rfl] at H; exact H
    clear H
    have H := H1
    clear H1
    have H' := Aside0.mk H
    clear H
    go_enter Try.func51, Try.ntmps51
    go_wp2_with (first | ((with_reducible refine gate_dst (N := 12) rfl ?_); refine Kd.R_lit k70 _ 70 ?hg (N := 12) ?hd (xs := ([] : List (S70))) (inner := []) (ok := fun _ => True) (okp := fun _ => True) ?hr ?hp (fun _ hk => hk) trivial (Below.refl _ _) (Nat.le_refl _) (by simp) ?_; (case hd => rfl); (case hg => rfl); (case hr => first | (go_simp; done) | (go_simp; rfl)); (case hp => exact (Reps.none _ _)); intro v145 w7 ho8 hb hg_ hnew_; clear hg_ hnew_; (first | rw [← Ny144.out] at ho8 | (simp only [Int.reduceToNat] at ho8; rw [← Ny144.out] at ho8)); have n0_ := Aside0.mk (Kd.R_lower ho8 (below_size (by repeat (first | (with_reducible first | exact HB.out | apply below_alloc | apply pw_below_drewN | apply below_drew1) | exact HB.out)))); have n1_ := Aside0.mk (below_step (by repeat (first | (with_reducible first | exact HB.out | apply below_alloc | apply pw_below_drewN | apply below_drew1) | exact HB.out)) hb); clear HB; have HO146 := n0_; have HB := n1_; clear n0_ n1_; clear hb ho8) | ((with_reducible refine gate_dst (N := 16) rfl ?_); refine Kd.R_lit (Kd.int .i64) _ 3 ?hg (N := 16) ?hd (xs := ([a1, a2] : List Int)) (inner := [.int .i64 a1, .int .i64 a2]) (ok := fun _ => True) (okp := fun _ => True) ?hr ?hp (fun _ hk => hk) trivial (Below.refl _ _) (Nat.le_refl _) (by simp) ?_; (case hd => rfl); (case hg => rfl); (case hr => first | (go_simp; done) | (go_simp; rfl)); (case hp => exact (Reps.one (show Kd.M (Kd.int .i64) _ _ _ a1 [.int .i64 a1] from rfl) (Reps.one (show Kd.M (Kd.int .i64) _ _ _ a2 [.int .i64 a2] from rfl) (Reps.none _ _)))); intro v148 w9 ho10 hb hg_ hnew_; clear hg_ hnew_; (first | rw [← Ny147.out] at ho10 | (simp only [Int.reduceToNat] at ho10; rw [← Ny147.out] at ho10)); have n0_ := Aside0.mk (Kd.R_below (by (with_reducible repeat (first | apply Kd.R_alloc | apply Kd.R_drewN | apply Kd.R_drew)); exact HO146.out) hb); have n1_ := Aside0.mk (Kd.R_lower ho10 (below_size (by repeat (first | (with_reducible first | exact HB.out | apply below_alloc | apply pw_below_drewN | apply below_drew1) | exact HB.out)))); have n2_ := Aside0.mk (below_step (by repeat (first | (with_reducible first | exact HB.out | apply below_alloc | apply pw_below_drewN | apply below_drew1) | exact HB.out)) hb); clear HO146; clear HB; have HO146 := n0_; have HO149 := n1_; have HB := n2_; clear n0_ n1_ n2_; clear hb ho10; obtain ⟨Ao11, co11, eo11⟩ := Kd.R_slice HO149.out; subst eo11) | ((with_reducible refine gate_callee (f := 55) rfl ?_); refine goesL_ (some 17) rfl rfl Try.func55 (by kernel_rfl) rfl #[.int .i64 a0, .slice Ao11 y147.length co11] rfl (by (try simp only [List.map_toArray, List.map_cons, List.map_nil]); first | done | rfl | (simp only [List.length_drop, List.length_take]; rfl)) ?_; (with_reducible refine (impl_isRing.calls k a0 _ _ y147 true _ ?side1 ?side2 A5.out).mono ?_); (case side1 => repeat (first | exact (Kd.R_reads' HO149.out).2.2 | (with_reducible refine Kd.C_alloc ?_ _) | (with_reducible refine Kd.C_drewN ?_ _) | (with_reducible refine Kd.C_drew ?_))); (case side2 => exact (Kd.R_reads' HO149.out).2.1); rintro e w' ⟨rfl, ⟨nd, rfl⟩⟩; refine ⟨_, rfl, ?_⟩))
    go_loopg [9, 10, 11] k (fun kq v9 v10 v11 w' => ∃ (x9_1 : List (S70)) (x10_1 : Int) (x11_1 : Int), v10 = .int .i64 x10_1 ∧ v11 = .int .i64 x11_1 ∧ Aside0 (impl_RingHops.l0 kq a0 a2 a3 x9_1 x10_1 x11_1 = some r) ∧ Aside0 (kq ≤ k) ∧ Aside0 (Kd.R k70 70 w' w.heap.size (fun _ => True) v9 x9_1) ∧ Aside0 (Below w.heap.size w w'))
    case atStart => exact ⟨(y144), (0), (a1), (by first | rfl | (simp; done) | (simp [*]; done)), (by first | rfl | (simp; done) | (simp [*]; done)), H', ⟨Nat.le_refl _⟩, ⟨by (with_reducible repeat (first | apply Kd.R_alloc | apply Kd.R_drewN | apply Kd.R_drew)); exact HO146.out⟩, ⟨by repeat (first | (with_reducible first | exact HB.out | apply below_alloc | apply pw_below_drewN | apply below_drew1) | exact HB.out)⟩⟩
    case round =>
      clear H'
      try clear p2
      try clear c5
      try clear c6
      obtain ⟨x9_1, x10_1, x11_1, rfl, rfl, HA, HK1, HO_9, HB⟩ := hrel
      cases gk with
      | zero => exact absurd HA.out (by simp [impl_RingHops.l0])
      | succ k1 =>
        have H := HA.out
        clear HA
        simp only [impl_RingHops.l0] at H
        by_cases c12 : x11_1 = a2
        · rw [if_pos c12] at H
          have c12b0 : (x11_1 == a2) = true := beq_iff_eq.mpr c12
          have c12b1 : (x11_1 != a2) = false := bne_eq_false_iff_eq.mpr c12
          clear c12
          obtain rfl := Option.some.inj H
          go_wp2
          go_ret
          exact ⟨_, by first | rfl | (simp [errW_none, errW_some] <;> rfl) | (simp [*, errW_none, errW_some] <;> rfl), by (with_reducible repeat (first | apply Kd.R_alloc | apply Kd.R_drewN | apply Kd.R_drew)); exact HO_9.out, by repeat (first | (with_reducible first | exact HB.out | apply below_alloc | apply pw_below_drewN | apply below_drew1) | exact HB.out)⟩
        · rw [if_neg c12] at H
          have c12b0 : (x11_1 == a2) = false := beq_eq_false_iff_ne.mpr c12
          have c12b1 : (x11_1 != a2) = true := bne_iff_ne.mpr c12
          by_cases c13 : x9_1.length < 8796093022208
          · rw [if_pos c13] at H
            have LMc13 := Aside0.mk c13
            clear c13
            obtain ⟨y151, hy151⟩ : ∃ y_ : List (S70), y_ = (x9_1 ++ [(⟨x11_1, x10_1⟩ : S70)]) := ⟨_, rfl⟩
            replace H : (if a3 = true then (if x11_1 = (wrap64 (a0 - 1)) then (if a0 = 0 then (none) else (impl_RingHops.l0 k1 a0 a2 a3 y151 1 (Int.tmod (wrap64 (x11_1 + 1)) a0))) else (if a0 = 0 then (none) else (impl_RingHops.l0 k1 a0 a2 a3 y151 x10_1 (Int.tmod (wrap64 (x11_1 + 1)) a0)))) else (if a0 = 0 then (none) else (impl_RingHops.l0 k1 a0 a2 a3 y151 x10_1 (Int.tmod (wrap64 (x11_1 + 1)) a0)))) = some r := by first | (rw [hy151]; with_reducible exact H) | (have H2_ := (Option.bind_some _ _).symm.trans H; rw [hy151]; with_reducible exact H2_) | (have H2_ := (Option.bind_some _ _).symm.trans H; with_reducible exact H2_) | with_reducible exact H | (rw [hy151]; exact H) | exact H
            have Ny151 := Aside0.mk hy151
            clear hy151
            by_cases c14 : a3 = true
            · subst c14
              have H1 : (if x11_1 = (wrap64 (a0 - 1)) then (if a0 = 0 then (none) else (impl_RingHops.l0 k1 a0 a2 true y151 1 (Int.tmod (wrap64 (x11_1 + 1)) a0))) else (if a0 = 0 then (none) else (impl_RingHops.l0 k1 a0 a2 true y151 x10_1 (Int.tmod (wrap64 (x11_1 + 1)) a0)))) = some r := by rw [if_pos rfl] at H; exact H
              clear H
              have H := H1
              clear H1
              by_cases c15 : x11_1 = (wrap64 (a0 - 1))
              · rw [if_pos c15] at H
                have c15b0 : (x11_1 == (wrap64 (a0 - 1))) = true := beq_iff_eq.mpr c15
                have c15b1 : (x11_1 != (wrap64 (a0 - 1))) = false := bne_eq_false_iff_eq.mpr c15
                clear c15
                by_cases c16 : a0 = 0
                · rw [if_pos c16] at H
                  exact absurd H (by simp)
                · rw [if_neg c16] at H
                  have c16b0 : (a0 == 0) = false := beq_eq_false_iff_ne.mpr c16
                  have c16b1 : (a0 != 0) = true := bne_iff_ne.mpr c16
                  have H' := Aside0.mk H
                  clear H
                  go_wp2_with (first | ((with_reducible refine gate_builtin (b := .append) (xs := #[.tmp 28, .tmp 32]) rfl ?_); at_builtin; refine Kd.R_append k70 (w0 := w) w.heap.size rfl (.tmp 28) (.tmp 32) 67 70 (.agg #[(.int .i64 0), (.int .i64 0)]) 16 rfl Try.underlying67 info70 rfl (by decide) (by omega) u9 x9_1 (⟨x11_1, x10_1⟩ : S70) [.int .i64 x11_1, .int .i64 x10_1] (fun _ => True) (fun _ => False) rfl rfl ?aP (fun _ hk => hk.elim) ?aF ?aO ?aB ?aS ?aL ?_; (case aP => exact k70_mkM _ _ _ (⟨x11_1, x10_1⟩ : S70)); (case aB => exact (by repeat (first | (with_reducible first | exact HB.out | apply below_alloc | apply pw_below_drewN | apply below_drew1) | exact HB.out))); (case aF => exact (fun _ _ => trivial)); (case aO => exact (by (with_reducible repeat (first | apply Kd.R_alloc | apply Kd.R_drewN | apply Kd.R_drew)); exact HO_9.out)); (case aS => exact (below_size (by repeat (first | (with_reducible first | exact HB.out | apply below_alloc | apply pw_below_drewN | apply below_drew1) | exact HB.out)))); (case aL => have := LMc13.out; omega); intro v152 w17 ho hb hg hat; rw [← Ny151.out] at ho; have n0_ := Aside0.mk (hb); have n1_ := Aside0.mk (ho); clear HB; clear HO_9; have HB := n0_; have HO153 := n1_; clear n0_ n1_; clear ho hb hg hat))
                  go_roundg k1
                  case measure => have := HK1.out; omega
                  case rel => exact ⟨(y151), (1), (Int.tmod (wrap64 (x11_1 + 1)) a0), (by first | rfl | (simp; done) | (simp [*]; done)), (by first | rfl | (simp; done) | (simp [*]; done)), H', ⟨by have := HK1.out; omega⟩, ⟨by (with_reducible repeat (first | apply Kd.R_alloc | apply Kd.R_drewN | apply Kd.R_drew)); exact HO153.out⟩, ⟨by repeat (first | (with_reducible first | exact HB.out | apply below_alloc | apply pw_below_drewN | apply below_drew1) | exact HB.out)⟩⟩
              · rw [if_neg c15] at H
                have c15b0 : (x11_1 == (wrap64 (a0 - 1))) = false := beq_eq_false_iff_ne.mpr c15
                have c15b1 : (x11_1 != (wrap64 (a0 - 1))) = true := bne_iff_ne.mpr c15
                by_cases c18 : a0 = 0
                · rw [if_pos c18] at H
                  exact absurd H (by simp)
                · rw [if_neg c18] at H
                  have c18b0 : (a0 == 0) = false := beq_eq_false_iff_ne.mpr c18
                  have c18b1 : (a0 != 0) = true := bne_iff_ne.mpr c18
                  have H' := Aside0.mk H
                  clear H
                  go_wp2_with (first | ((with_reducible refine gate_builtin (b := .append) (xs := #[.tmp 28, .tmp 32]) rfl ?_); at_builtin; refine Kd.R_append k70 (w0 := w) w.heap.size rfl (.tmp 28) (.tmp 32) 67 70 (.agg #[(.int .i64 0), (.int .i64 0)]) 16 rfl Try.underlying67 info70 rfl (by decide) (by omega) u9 x9_1 (⟨x11_1, x10_1⟩ : S70) [.int .i64 x11_1, .int .i64 x10_1] (fun _ => True) (fun _ => False) rfl rfl ?aP (fun _ hk => hk.elim) ?aF ?aO ?aB ?aS ?aL ?_; (case aP => exact k70_mkM _ _ _ (⟨x11_1, x10_1⟩ : S70)); (case aB => exact (by repeat (first | (with_reducible first | exact HB.out | apply below_alloc | apply pw_below_drewN | apply below_drew1) | exact HB.out))); (case aF => exact (fun _ _ => trivial)); (case aO => exact (by (with_reducible repeat (first | apply Kd.R_alloc | apply Kd.R_drewN | apply Kd.R_drew)); exact HO_9.out)); (case aS => exact (below_size (by repeat (first | (with_reducible first | exact HB.out | apply below_alloc | apply pw_below_drewN | apply below_drew1) | exact HB.out)))); (case aL => have := LMc13.out; omega); intro v152 w19 ho hb hg hat; rw [← Ny151.out] at ho; have n0_ := Aside0.mk (hb); have n1_ := Aside0.mk (ho); clear HB; clear HO_9; have HB := n0_; have HO153 := n1_; clear n0_ n1_; clear ho hb hg hat))
                  go_roundg k1
                  case measure => have := HK1.out; omega
                  case rel => exact ⟨(y151), (x10_1), (Int.tmod (wrap64 (x11_1 + 1)) a0), (by first | rfl | (simp; done) | (simp [*]; done)), (by first | rfl | (simp; done) | (simp [*]; done)), H', ⟨by have := HK1.out; omega⟩, ⟨by (with_reducible repeat (first | apply Kd.R_alloc | apply Kd.R_drewN | apply Kd.R_drew)); exact HO153.out⟩, ⟨by repeat (first | (with_reducible first | exact HB.out | apply below_alloc | apply pw_below_drewN | apply below_drew1) | exact HB.out)⟩⟩
            · replace c14 := Bool.eq_false_iff.mpr c14
              subst c14
              have H1 : (if a0 = 0 then (none) else (impl_RingHops.l0 k1 a0 a2 false y151 x10_1 (Int.tmod (wrap64 (x11_1 + 1)) a0))) = some r := by rw [if_neg (show ¬ (false = true) by decide)] at H; exact H
              clear H
              have H := H1
              clear H1
              by_cases c20 : a0 = 0
              · rw [if_pos c20] at H
                exact absurd H (by simp)
              · rw [if_neg c20] at H
                have c20b0 : (a0 == 0) = false := beq_eq_false_iff_ne.mpr c20
                have c20b1 : (a0 != 0) = true := bne_iff_ne.mpr c20
                have H' := Aside0.mk H
                clear H
                go_wp2_with (first | ((with_reducible refine gate_builtin (b := .append) (xs := #[.tmp 28, .tmp 32]) rfl ?_); at_builtin; refine Kd.R_append k70 (w0 := w) w.heap.size rfl (.tmp 28) (.tmp 32) 67 70 (.agg #[(.int .i64 0), (.int .i64 0)]) 16 rfl Try.underlying67 info70 rfl (by decide) (by omega) u9 x9_1 (⟨x11_1, x10_1⟩ : S70) [.int .i64 x11_1, .int .i64 x10_1] (fun _ => True) (fun _ => False) rfl rfl ?aP (fun _ hk => hk.elim) ?aF ?aO ?aB ?aS ?aL ?_; (case aP => exact k70_mkM _ _ _ (⟨x11_1, x10_1⟩ : S70)); (case aB => exact (by repeat (first | (with_reducible first | exact HB.out | apply below_alloc | apply pw_below_drewN | apply below_drew1) | exact HB.out))); (case aF => exact (fun _ _ => trivial)); (case aO => exact (by (with_reducible repeat (first | apply Kd.R_alloc | apply Kd.R_drewN | apply Kd.R_drew)); exact HO_9.out)); (case aS => exact (below_size (by repeat (first | (with_reducible first | exact HB.out | apply below_alloc | apply pw_below_drewN | apply below_drew1) | exact HB.out)))); (case aL => have := LMc13.out; omega); intro v152 w21 ho hb hg hat; rw [← Ny151.out] at ho; have n0_ := Aside0.mk (hb); have n1_ := Aside0.mk (ho); clear HB; clear HO_9; have HB := n0_; have HO153 := n1_; clear n0_ n1_; clear ho hb hg hat))
                go_roundg k1
                case measure => have := HK1.out; omega
                case rel => exact ⟨(y151), (x10_1), (Int.tmod (wrap64 (x11_1 + 1)) a0), (by first | rfl | (simp; done) | (simp [*]; done)), (by first | rfl | (simp; done) | (simp [*]; done)), H', ⟨by have := HK1.out; omega⟩, ⟨by (with_reducible repeat (first | apply Kd.R_alloc | apply Kd.R_drewN | apply Kd.R_drew)); exact HO153.out⟩, ⟨by repeat (first | (with_reducible first | exact HB.out | apply below_alloc | apply pw_below_drewN | apply below_drew1) | exact HB.out)⟩⟩
          · rw [if_neg c13] at H
            exact absurd H (by simp)
  · replace c6 := Bool.eq_false_iff.mpr c6
    subst c6
    have H1 : (some y144) = some r := by rw [if_neg (show ¬ (false = true) by decide)] at H; exact H
    clear H
    have H := H1
    clear H1
    obtain rfl := Option.some.inj H
    go_enter Try.func51, Try.ntmps51
    go_wp2_with (first | ((with_reducible refine gate_dst (N := 12) rfl ?_); refine Kd.R_lit k70 _ 70 ?hg (N := 12) ?hd (xs := ([] : List (S70))) (inner := []) (ok := fun _ => True) (okp := fun _ => True) ?hr ?hp (fun _ hk => hk) trivial (Below.refl _ _) (Nat.le_refl _) (by simp) ?_; (case hd => rfl); (case hg => rfl); (case hr => first | (go_simp; done) | (go_simp; rfl)); (case hp => exact (Reps.none _ _)); intro v145 w22 ho23 hb hg_ hnew_; clear hg_ hnew_; (first | rw [← Ny144.out] at ho23 | (simp only [Int.reduceToNat] at ho23; rw [← Ny144.out] at ho23)); have n0_ := Aside0.mk (Kd.R_lower ho23 (below_size (by repeat (first | (with_reducible first | exact HB.out | apply below_alloc | apply pw_below_drewN | apply below_drew1) | exact HB.out)))); have n1_ := Aside0.mk (below_step (by repeat (first | (with_reducible first | exact HB.out | apply below_alloc | apply pw_below_drewN | apply below_drew1) | exact HB.out)) hb); clear HB; have HO146 := n0_; have HB := n1_; clear n0_ n1_; clear hb ho23) | ((with_reducible refine gate_dst (N := 16) rfl ?_); refine Kd.R_lit (Kd.int .i64) _ 3 ?hg (N := 16) ?hd (xs := ([a1, a2] : List Int)) (inner := [.int .i64 a1, .int .i64 a2]) (ok := fun _ => True) (okp := fun _ => True) ?hr ?hp (fun _ hk => hk) trivial (Below.refl _ _) (Nat.le_refl _) (by simp) ?_; (case hd => rfl); (case hg => rfl); (case hr => first | (go_simp; done) | (go_simp; rfl)); (case hp => exact (Reps.one (show Kd.M (Kd.int .i64) _ _ _ a1 [.int .i64 a1] from rfl) (Reps.one (show Kd.M (Kd.int .i64) _ _ _ a2 [.int .i64 a2] from rfl) (Reps.none _ _)))); intro v148 w24 ho25 hb hg_ hnew_; clear hg_ hnew_; (first | rw [← Ny147.out] at ho25 | (simp only [Int.reduceToNat] at ho25; rw [← Ny147.out] at ho25)); have n0_ := Aside0.mk (Kd.R_below (by (with_reducible repeat (first | apply Kd.R_alloc | apply Kd.R_drewN | apply Kd.R_drew)); exact HO146.out) hb); have n1_ := Aside0.mk (Kd.R_lower ho25 (below_size (by repeat (first | (with_reducible first | exact HB.out | apply below_alloc | apply pw_below_drewN | apply below_drew1) | exact HB.out)))); have n2_ := Aside0.mk (below_step (by repeat (first | (with_reducible first | exact HB.out | apply below_alloc | apply pw_below_drewN | apply below_drew1) | exact HB.out)) hb); clear HO146; clear HB; have HO146 := n0_; have HO149 := n1_; have HB := n2_; clear n0_ n1_ n2_; clear hb ho25; obtain ⟨Ao26, co26, eo26⟩ := Kd.R_slice HO149.out; subst eo26) | ((with_reducible refine gate_callee (f := 55) rfl ?_); refine goesL_ (some 17) rfl rfl Try.func55 (by kernel_rfl) rfl #[.int .i64 a0, .slice Ao26 y147.length co26] rfl (by (try simp only [List.map_toArray, List.map_cons, List.map_nil]); first | done | rfl | (simp only [List.length_drop, List.length_take]; rfl)) ?_; (with_reducible refine (impl_isRing.calls k a0 _ _ y147 false _ ?side1 ?side2 A5.out).mono ?_); (case side1 => repeat (first | exact (Kd.R_reads' HO149.out).2.2 | (with_reducible refine Kd.C_alloc ?_ _) | (with_reducible refine Kd.C_drewN ?_ _) | (with_reducible refine Kd.C_drew ?_))); (case side2 => exact (Kd.R_reads' HO149.out).2.1); rintro e w' ⟨rfl, ⟨nd, rfl⟩⟩; refine ⟨_, rfl, ?_⟩))
    go_ret
    exact ⟨_, by first | rfl | (simp [errW_none, errW_some] <;> rfl) | (simp [*, errW_none, errW_some] <;> rfl), by (with_reducible repeat (first | apply Kd.R_alloc | apply Kd.R_drewN | apply Kd.R_drew)); exact HO146.out, by repeat (first | (with_reducible first | exact HB.out | apply below_alloc | apply pw_below_drewN | apply below_drew1) | exact HB.out)⟩

/-! ### laws_FnHops: function 14 -/
mutual
def laws_FnHops.j0 : Nat → Int → Int → List (S70) → List (S70) → Bool → Option (Bool)
  | 0, _, _, _, _, _ => none
  | k + 1, x4, x5, x7, x8, x59 => if x59 = true then (some false) else (laws_FnHops.l0 k x4 x5 x7 x8 0)
def laws_FnHops.l0 : Nat → Int → Int → List (S70) → List (S70) → Int → Option (Bool)
  | 0, _, _, _, _, _ => none
  | k + 1, x4, x5, x7, x8, x9 => if x9 < (x7.length : Int) then (if 0 ≤ x9 then (if x4 = 0 then (none) else (if ((rd_T70 x7 x9).f0) = (Int.tmod (wrap64 (x5 + x9)) x4) then (if x9 < (x8.length : Int) then (if ((rd_T70 x8 x9).f0) = ((rd_T70 x7 x9).f0) then (laws_FnHops.j2 k x4 x5 x7 x8 x9 (((rd_T70 x8 x9).f1) != 0)) else (laws_FnHops.j2 k x4 x5 x7 x8 x9 true)) else (none)) else (laws_FnHops.j2 k x4 x5 x7 x8 x9 true))) else (none)) else (some true)
def laws_FnHops.j2 : Nat → Int → Int → List (S70) → List (S70) → Int → Bool → Option (Bool)
  | 0, _, _, _, _, _, _ => none
  | k + 1, x4, x5, x7, x8, x9, x97 => if x97 = true then (some false) else (if 0 ≤ x9 then (if x9 < (x7.length : Int) then (if ((((rd_T70 x7 x9).f1) == 1) != (decide ((wrap64 (x5 + x9)) ≥ x4))) = true then (some false) else (laws_FnHops.l0 k x4 x5 x7 x8 (wrap64 (x9 + 1)))) else (none)) else (none))
end
def laws_FnHops.f (k : Nat) (l0 : List Int) : Option (Bool) := (laws_big.f l0).bind fun t154 => (if t154 = true then (some true) else ((spec_DrawPlaces.f k l0).bind fun t155 => (if 0 < (t155.length : Int) then (if 1 < (t155.length : Int) then (if (wrap64 (2 + (Int.tmod (rd t155 0) 11))) = 0 then (none) else (if 2 < (t155.length : Int) then ((impl_RingHops.f k (wrap64 (2 + (Int.tmod (rd t155 0) 11))) (Int.tmod (rd t155 1) (wrap64 (2 + (Int.tmod (rd t155 0) 11)))) (Int.tmod (rd t155 2) (wrap64 (2 + (Int.tmod (rd t155 0) 11)))) true).bind fun t161 => ((impl_RingHops.f k (wrap64 (2 + (Int.tmod (rd t155 0) 11))) (Int.tmod (rd t155 1) (wrap64 (2 + (Int.tmod (rd t155 0) 11)))) (Int.tmod (rd t155 2) (wrap64 (2 + (Int.tmod (rd t155 0) 11)))) false).bind fun t164 => ((impl_HopsBetween.f k (wrap64 (2 + (Int.tmod (rd t155 0) 11))) (Int.tmod (rd t155 1) (wrap64 (2 + (Int.tmod (rd t155 0) 11)))) (Int.tmod (rd t155 2) (wrap64 (2 + (Int.tmod (rd t155 0) 11))))).bind fun t167 => (if (t161.length : Int) = t167 then ((spec_HopsBetween.f (wrap64 (2 + (Int.tmod (rd t155 0) 11))) (Int.tmod (rd t155 1) (wrap64 (2 + (Int.tmod (rd t155 0) 11)))) (Int.tmod (rd t155 2) (wrap64 (2 + (Int.tmod (rd t155 0) 11))))).bind fun t168 => (if (t161.length : Int) = t168 then (laws_FnHops.j0 k (wrap64 (2 + (Int.tmod (rd t155 0) 11))) (Int.tmod (rd t155 1) (wrap64 (2 + (Int.tmod (rd t155 0) 11)))) t161 t164 ((t164.length : Int) != (t161.length : Int))) else (laws_FnHops.j0 k (wrap64 (2 + (Int.tmod (rd t155 0) 11))) (Int.tmod (rd t155 1) (wrap64 (2 + (Int.tmod (rd t155 0) 11)))) t161 t164 true))) else (laws_FnHops.j0 k (wrap64 (2 + (Int.tmod (rd t155 0) 11))) (Int.tmod (rd t155 1) (wrap64 (2 + (Int.tmod (rd t155 0) 11)))) t161 t164 true))))) else (none))) else (none)) else (none))))
theorem laws_FnHops.mono_l : ∀ k, (∀ y0 y1 y2 y3 y4, LeO (laws_FnHops.j0 k y0 y1 y2 y3 y4) (laws_FnHops.j0 (k + 1) y0 y1 y2 y3 y4)) ∧ (∀ y0 y1 y2 y3 y4, LeO (laws_FnHops.l0 k y0 y1 y2 y3 y4) (laws_FnHops.l0 (k + 1) y0 y1 y2 y3 y4)) ∧ (∀ y0 y1 y2 y3 y4 y5, LeO (laws_FnHops.j2 k y0 y1 y2 y3 y4 y5) (laws_FnHops.j2 (k + 1) y0 y1 y2 y3 y4 y5))
  | 0 => ⟨fun _ _ _ _ _ r h => by simp [laws_FnHops.j0] at h, fun _ _ _ _ _ r h => by simp [laws_FnHops.l0] at h, fun _ _ _ _ _ _ r h => by simp [laws_FnHops.j2] at h⟩
  | k + 1 => by
    obtain ⟨ih0, ih1, ih2⟩ := laws_FnHops.mono_l k
    refine ⟨?_, ?_, ?_⟩
    · intro y0 y1 y2 y3 y4
      unfold laws_FnHops.j0
      repeat' first
      | (with_reducible exact ih0 _ _ _ _ _)
      | (with_reducible exact ih1 _ _ _ _ _)
      | (with_reducible exact ih2 _ _ _ _ _ _)
      | (with_reducible exact impl_HopsBetween.mono _ _ _ _)
      | (with_reducible exact impl_RingHops.mono _ _ _ _ _)
      | (with_reducible exact spec_DrawPlaces.mono _ _)
      | (with_reducible exact LeO.refl _)
      | (with_reducible exact LeO.none _)
      | (with_reducible refine LeO.ite ?_ ?_)
      | (with_reducible refine LeO.bind ?_ (fun _ => ?_))
      | exact ih0 _ _ _ _ _
      | exact ih1 _ _ _ _ _
      | exact ih2 _ _ _ _ _ _
      | exact impl_HopsBetween.mono _ _ _ _
      | exact impl_RingHops.mono _ _ _ _ _
      | exact spec_DrawPlaces.mono _ _
      | exact LeO.none _
      | refine LeO.ite ?_ ?_
      | refine LeO.bind ?_ (fun _ => ?_)
    · intro y0 y1 y2 y3 y4
      unfold laws_FnHops.l0
      repeat' first
      | (with_reducible exact ih0 _ _ _ _ _)
      | (with_reducible exact ih1 _ _ _ _ _)
      | (with_reducible exact ih2 _ _ _ _ _ _)
      | (with_reducible exact impl_HopsBetween.mono _ _ _ _)
      | (with_reducible exact impl_RingHops.mono _ _ _ _ _)
      | (with_reducible exact spec_DrawPlaces.mono _ _)
      | (with_reducible exact LeO.refl _)
      | (with_reducible exact LeO.none _)
      | (with_reducible refine LeO.ite ?_ ?_)
      | (with_reducible refine LeO.bind ?_ (fun _ => ?_))
      | exact ih0 _ _ _ _ _
      | exact ih1 _ _ _ _ _
      | exact ih2 _ _ _ _ _ _
      | exact impl_HopsBetween.mono _ _ _ _
      | exact impl_RingHops.mono _ _ _ _ _
      | exact spec_DrawPlaces.mono _ _
      | exact LeO.none _
      | refine LeO.ite ?_ ?_
      | refine LeO.bind ?_ (fun _ => ?_)
    · intro y0 y1 y2 y3 y4 y5
      unfold laws_FnHops.j2
      repeat' first
      | (with_reducible exact ih0 _ _ _ _ _)
      | (with_reducible exact ih1 _ _ _ _ _)
      | (with_reducible exact ih2 _ _ _ _ _ _)
      | (with_reducible exact impl_HopsBetween.mono _ _ _ _)
      | (with_reducible exact impl_RingHops.mono _ _ _ _ _)
      | (with_reducible exact spec_DrawPlaces.mono _ _)
      | (with_reducible exact LeO.refl _)
      | (with_reducible exact LeO.none _)
      | (with_reducible refine LeO.ite ?_ ?_)
      | (with_reducible refine LeO.bind ?_ (fun _ => ?_))
      | exact ih0 _ _ _ _ _
      | exact ih1 _ _ _ _ _
      | exact ih2 _ _ _ _ _ _
      | exact impl_HopsBetween.mono _ _ _ _
      | exact impl_RingHops.mono _ _ _ _ _
      | exact spec_DrawPlaces.mono _ _
      | exact LeO.none _
      | refine LeO.ite ?_ ?_
      | refine LeO.bind ?_ (fun _ => ?_)
theorem laws_FnHops.mono : ∀ a0 k, LeO (laws_FnHops.f k a0) (laws_FnHops.f (k + 1) a0) := by
  intro a0 k
  obtain ⟨ih0, ih1, ih2⟩ := laws_FnHops.mono_l k
  unfold laws_FnHops.f
  repeat' first
      | (with_reducible exact ih0 _ _ _ _ _)
      | (with_reducible exact ih1 _ _ _ _ _)
      | (with_reducible exact ih2 _ _ _ _ _ _)
      | (with_reducible exact impl_HopsBetween.mono _ _ _ _)
      | (with_reducible exact impl_RingHops.mono _ _ _ _ _)
      | (with_reducible exact spec_DrawPlaces.mono _ _)
      | (with_reducible exact LeO.refl _)
      | (with_reducible exact LeO.none _)
      | (with_reducible refine LeO.ite ?_ ?_)
      | (with_reducible refine LeO.bind ?_ (fun _ => ?_))
      | exact ih0 _ _ _ _ _
      | exact ih1 _ _ _ _ _
      | exact ih2 _ _ _ _ _ _
      | exact impl_HopsBetween.mono _ _ _ _
      | exact impl_RingHops.mono _ _ _ _ _
      | exact spec_DrawPlaces.mono _ _
      | exact LeO.none _
      | refine LeO.ite ?_ ?_
      | refine LeO.bind ?_ (fun _ => ?_)
set_option maxHeartbeats 8000000 in
set_option maxRecDepth 100000 in
theorem laws_FnHops.calls (k : Nat) (A0 : Option Addr) (c0 : Nat) (l0 : List Int) (r : Bool) (w : World) (hr0 : Kd.C (Kd.int .u8) w A0 l0.length l0) (hc0 : l0.length ≤ c0) (h : laws_FnHops.f k l0 = some r) :
    Calls Try.prog 14 #[.slice A0 l0.length c0] w fun e w' => e = .returned (.bool r) ∧ Below w.heap.size w w' := by
  have HR0 := Aside0.mk hr0
  have HC0 := Aside0.mk hc0
  clear hr0 hc0
  have HB := Aside0.mk (Below.refl w.heap.size w)
  have H : ((laws_big.f l0).bind fun t154 => (if t154 = true then (some true) else ((spec_DrawPlaces.f k l0).bind fun t155 => (if 0 < (t155.length : Int) then (if 1 < (t155.length : Int) then (if (wrap64 (2 + (Int.tmod (rd t155 0) 11))) = 0 then (none) else (if 2 < (t155.length : Int) then ((impl_RingHops.f k (wrap64 (2 + (Int.tmod (rd t155 0) 11))) (Int.tmod (rd t155 1) (wrap64 (2 + (Int.tmod (rd t155 0) 11)))) (Int.tmod (rd t155 2) (wrap64 (2 + (Int.tmod (rd t155 0) 11)))) true).bind fun t161 => ((impl_RingHops.f k (wrap64 (2 + (Int.tmod (rd t155 0) 11))) (Int.tmod (rd t155 1) (wrap64 (2 + (Int.tmod (rd t155 0) 11)))) (Int.tmod (rd t155 2) (wrap64 (2 + (Int.tmod (rd t155 0) 11)))) false).bind fun t164 => ((impl_HopsBetween.f k (wrap64 (2 + (Int.tmod (rd t155 0) 11))) (Int.tmod (rd t155 1) (wrap64 (2 + (Int.tmod (rd t155 0) 11)))) (Int.tmod (rd t155 2) (wrap64 (2 + (Int.tmod (rd t155 0) 11))))).bind fun t167 => (if (t161.length : Int) = t167 then ((spec_HopsBetween.f (wrap64 (2 + (Int.tmod (rd t155 0) 11))) (Int.tmod (rd t155 1) (wrap64 (2 + (Int.tmod (rd t155 0) 11)))) (Int.tmod (rd t155 2) (wrap64 (2 + (Int.tmod (rd t155 0) 11))))).bind fun t168 => (if (t161.length : Int) = t168 then (laws_FnHops.j0 k (wrap64 (2 + (Int.tmod (rd t155 0) 11))) (Int.tmod (rd t155 1) (wrap64 (2 + (Int.tmod (rd t155 0) 11)))) t161 t164 ((t164.length : Int) != (t161.length : Int))) else (laws_FnHops.j0 k (wrap64 (2 + (Int.tmod (rd t155 0) 11))) (Int.tmod (rd t155 1) (wrap64 (2 + (Int.tmod (rd t155 0) 11)))) t161 t164 true))) else (laws_FnHops.j0 k (wrap64 (2 + (Int.tmod (rd t155 0) 11))) (Int.tmod (rd t155 1) (wrap64 (2 + (Int.tmod (rd t155 0) 11)))) t161 t164 true))))) else (none))) else (none)) else (none))))) = some r := h
  clear h
  replace H := Option.bind_eq_some_iff.mp H
  obtain ⟨t154, A20, H⟩ := H
  replace H : (if t154 = true then (some true) else ((spec_DrawPlaces.f k l0).bind fun t155 => (if 0 < (t155.length : Int) then (if 1 < (t155.length : Int) then (if (wrap64 (2 + (Int.tmod (rd t155 0) 11))) = 0 then (none) else (if 2 < (t155.length : Int) then ((impl_RingHops.f k (wrap64 (2 + (Int.tmod (rd t155 0) 11))) (Int.tmod (rd t155 1) (wrap64 (2 + (Int.tmod (rd t155 0) 11)))) (Int.tmod (rd t155 2) (wrap64 (2 + (Int.tmod (rd t155 0) 11)))) true).bind fun t161 => ((impl_RingHops.f k (wrap64 (2 + (Int.tmod (rd t155 0) 11))) (Int.tmod (rd t155 1) (wrap64 (2 + (Int.tmod (rd t155 0) 11)))) (Int.tmod (rd t155 2) (wrap64 (2 + (Int.tmod (rd t155 0) 11)))) false).bind fun t164 => ((impl_HopsBetween.f k (wrap64 (2 + (Int.tmod (rd t155 0) 11))) (Int.tmod (rd t155 1) (wrap64 (2 + (Int.tmod (rd t155 0) 11)))) (Int.tmod (rd t155 2) (wrap64 (2 + (Int.tmod (rd t155 0) 11))))).bind fun t167 => (if (t161.length : Int) = t167 then ((spec_HopsBetween.f (wrap64 (2 + (Int.tmod (rd t155 0) 11))) (Int.tmod (rd t155 1) (wrap64 (2 + (Int.tmod (rd t155 0) 11)))) (Int.tmod (rd t155 2) (wrap64 (2 + (Int.tmod (rd t155 0) 11))))).bind fun t168 => (if (t161.length : Int) = t168 then (laws_FnHops.j0 k (wrap64 (2 + (Int.tmod (rd t155 0) 11))) (Int.tmod (rd t155 1) (wrap64 (2 + (Int.tmod (rd t155 0) 11)))) t161 t164 ((t164.length : Int) != (t161.length : Int))) else (laws_FnHops.j0 k (wrap64 (2 + (Int.tmod (rd t155 0) 11))) (Int.tmod (rd t155 1) (wrap64 (2 + (Int.tmod (rd t155 0) 11)))) t161 t164 true))) else (laws_FnHops.j0 k (wrap64 (2 + (Int.tmod (rd t155 0) 11))) (Int.tmod (rd t155 1) (wrap64 (2 + (Int.tmod (rd t155 0) 11)))) t161 t164 true))))) else (none))) else (none)) else (none)))) = some r := H
  have A2 := Aside0.mk A20
  clear A20
  by_cases c3 : t154 = true
  · subst c3
    have H1 : (some true) = some r := by rw [if_pos rfl] at H; exact H
    clear H
    have H := H1
    clear H1
    obtain rfl := Option.some.inj H
    go_enter Try.func14, Try.ntmps14
    go_wp2_with (first | (go_at_call 34; (with_reducible refine (laws_big.calls _ _ l0 true _ ?side1 ?side2 A2.out).mono ?_); (case side1 => repeat (first | exact HR0.out | (with_reducible refine Kd.C_alloc ?_ _) | (with_reducible refine Kd.C_drewN ?_ _) | (with_reducible refine Kd.C_drew ?_))); (case side2 => exact HC0.out); rintro e w' ⟨rfl, ⟨nd, rfl⟩⟩; (try first | exact ⟨rfl, _, World.drewN_drewN _ _ _⟩ | exact ⟨rfl, _, Eq.trans (World.drewN_drewN _ _ _) (congrArg (World.drewN _) (Nat.add_assoc _ _ _))⟩)))
    repeat (go_quiet (first | (go_at_call 34; (with_reducible refine (laws_big.calls _ _ l0 true _ ?side1 ?side2 A2.out).mono ?_); (case side1 => repeat (first | exact HR0.out | (with_reducible refine Kd.C_alloc ?_ _) | (with_reducible refine Kd.C_drewN ?_ _) | (with_reducible refine Kd.C_drew ?_))); (case side2 => exact HC0.out); rintro e w' ⟨rfl, ⟨nd, rfl⟩⟩; (try first | exact ⟨rfl, _, World.drewN_drewN _ _ _⟩ | exact ⟨rfl, _, Eq.trans (World.drewN_drewN _ _ _) (congrArg (World.drewN _) (Nat.add_assoc _ _ _))⟩))); try go_wp2_with (first | (go_at_call 34; (with_reducible refine (laws_big.calls _ _ l0 true _ ?side1 ?side2 A2.out).mono ?_); (case side1 => repeat (first | exact HR0.out | (with_reducible refine Kd.C_alloc ?_ _) | (with_reducible refine Kd.C_drewN ?_ _) | (with_reducible refine Kd.C_drew ?_))); (case side2 => exact HC0.out); rintro e w' ⟨rfl, ⟨nd, rfl⟩⟩; (try first | exact ⟨rfl, _, World.drewN_drewN _ _ _⟩ | exact ⟨rfl, _, Eq.trans (World.drewN_drewN _ _ _) (congrArg (World.drewN _) (Nat.add_assoc _ _ _))⟩))))
    go_ret
    exact ⟨by first | rfl | (simp [errW_none, errW_some] <;> rfl) | (simp [*, errW_none, errW_some] <;> rfl), by repeat (first | (with_reducible first | exact HB.out | apply below_alloc | apply pw_below_drewN | apply below_drew1) | exact HB.out)⟩
  · replace c3 := Bool.eq_false_iff.mpr c3
    subst c3
    have H1 : ((spec_DrawPlaces.f k l0).bind fun t155 => (if 0 < (t155.length : Int) then (if 1 < (t155.length : Int) then (if (wrap64 (2 + (Int.tmod (rd t155 0) 11))) = 0 then (none) else (if 2 < (t155.length : Int) then ((impl_RingHops.f k (wrap64 (2 + (Int.tmod (rd t155 0) 11))) (Int.tmod (rd t155 1) (wrap64 (2 + (Int.tmod (rd t155 0) 11)))) (Int.tmod (rd t155 2) (wrap64 (2 + (Int.tmod (rd t155 0) 11)))) true).bind fun t161 => ((impl_RingHops.f k (wrap64 (2 + (Int.tmod (rd t155 0) 11))) (Int.tmod (rd t155 1) (wrap64 (2 + (Int.tmod (rd t155 0) 11)))) (Int.tmod (rd t155 2) (wrap64 (2 + (Int.tmod (rd t155 0) 11)))) false).bind fun t164 => ((impl_HopsBetween.f k (wrap64 (2 + (Int.tmod (rd t155 0) 11))) (Int.tmod (rd t155 1) (wrap64 (2 + (Int.tmod (rd t155 0) 11)))) (Int.tmod (rd t155 2) (wrap64 (2 + (Int.tmod (rd t155 0) 11))))).bind fun t167 => (if (t161.length : Int) = t167 then ((spec_HopsBetween.f (wrap64 (2 + (Int.tmod (rd t155 0) 11))) (Int.tmod (rd t155 1) (wrap64 (2 + (Int.tmod (rd t155 0) 11)))) (Int.tmod (rd t155 2) (wrap64 (2 + (Int.tmod (rd t155 0) 11))))).bind fun t168 => (if (t161.length : Int) = t168 then (laws_FnHops.j0 k (wrap64 (2 + (Int.tmod (rd t155 0) 11))) (Int.tmod (rd t155 1) (wrap64 (2 + (Int.tmod (rd t155 0) 11)))) t161 t164 ((t164.length : Int) != (t161.length : Int))) else (laws_FnHops.j0 k (wrap64 (2 + (Int.tmod (rd t155 0) 11))) (Int.tmod (rd t155 1) (wrap64 (2 + (Int.tmod (rd t155 0) 11)))) t161 t164 true))) else (laws_FnHops.j0 k (wrap64 (2 + (Int.tmod (rd t155 0) 11))) (Int.tmod (rd t155 1) (wrap64 (2 + (Int.tmod (rd t155 0) 11)))) t161 t164 true))))) else (none))) else (none)) else (none))) = some r := by rw [if_neg (show ¬ (false = true) by decide)] at H; exact H
    clear H
    have H := H1
    clear H1
    replace H := Option.bind_eq_some_iff.mp H
    obtain ⟨t155, A40, H⟩ := H
    replace H : (if 0 < (t155.length : Int) then (if 1 < (t155.length : Int) then (if (wrap64 (2 + (Int.tmod (rd t155 0) 11))) = 0 then (none) else (if 2 < (t155.length : Int) then ((impl_RingHops.f k (wrap64 (2 + (Int.tmod (rd t155 0) 11))) (Int.tmod (rd t155 1) (wrap64 (2 + (Int.tmod (rd t155 0) 11)))) (Int.tmod (rd t155 2) (wrap64 (2 + (Int.tmod (rd t155 0) 11)))) true).bind fun t161 => ((impl_RingHops.f k (wrap64 (2 + (Int.tmod (rd t155 0) 11))) (Int.tmod (rd t155 1) (wrap64 (2 + (Int.tmod (rd t155 0) 11)))) (Int.tmod (rd t155 2) (wrap64 (2 + (Int.tmod (rd t155 0) 11)))) false).bind fun t164 => ((impl_HopsBetween.f k (wrap64 (2 + (Int.tmod (rd t155 0) 11))) (Int.tmod (rd t155 1) (wrap64 (2 + (Int.tmod (rd t155 0) 11)))) (Int.tmod (rd t155 2) (wrap64 (2 + (Int.tmod (rd t155 0) 11))))).bind fun t167 => (if (t161.length : Int) = t167 then ((spec_HopsBetween.f (wrap64 (2 + (Int.tmod (rd t155 0) 11))) (Int.tmod (rd t155 1) (wrap64 (2 + (Int.tmod (rd t155 0) 11)))) (Int.tmod (rd t155 2) (wrap64 (2 + (Int.tmod (rd t155 0) 11))))).bind fun t168 => (if (t161.length : Int) = t168 then (laws_FnHops.j0 k (wrap64 (2 + (Int.tmod (rd t155 0) 11))) (Int.tmod (rd t155 1) (wrap64 (2 + (Int.tmod (rd t155 0) 11)))) t161 t164 ((t164.length : Int) != (t161.length : Int))) else (laws_FnHops.j0 k (wrap64 (2 + (Int.tmod (rd t155 0) 11))) (Int.tmod (rd t155 1) (wrap64 (2 + (Int.tmod (rd t155 0) 11)))) t161 t164 true))) else (laws_FnHops.j0 k (wrap64 (2 + (Int.tmod (rd t155 0) 11))) (Int.tmod (rd t155 1) (wrap64 (2 + (Int.tmod (rd t155 0) 11)))) t161 t164 true))))) else (none))) else (none)) else (none)) = some r := H
    have A4 := Aside0.mk A40
    clear A40
    by_cases c5 : 0 < (t155.length : Int)
    · rw [if_pos c5] at H
      have c5b0 : decide (0 < (t155.length : Int)) = true := decide_eq_true c5
      have c5b1 : decide (0 < t155.length) = true := decide_eq_true (by omega)
      clear c5
      by_cases c6 : 1 < (t155.length : Int)
      · rw [if_pos c6] at H
        have c6b0 : decide (1 < (t155.length : Int)) = true := decide_eq_true c6
        have c6b1 : decide (1 < t155.length) = true := decide_eq_true (by omega)
        clear c6
        by_cases c7 : (wrap64 (2 + (Int.tmod (rd t155 0) 11))) = 0
        · rw [if_pos c7] at H
          exact absurd H (by simp)
        · rw [if_neg c7] at H
          have c7b0 : ((wrap64 (2 + (Int.tmod (rd t155 0) 11))) == 0) = false := beq_eq_false_iff_ne.mpr c7
          have c7b1 : ((wrap64 (2 + (Int.tmod (rd t155 0) 11))) != 0) = true := bne_iff_ne.mpr c7
          by_cases c8 : 2 < (t155.length : Int)
          · rw [if_pos c8] at H
            have c8b0 : decide (2 < (t155.length : Int)) = true := decide_eq_true c8
            have c8b1 : decide (2 < t155.length) = true := decide_eq_true (by omega)
            clear c8
            replace H := Option.bind_eq_some_iff.mp H
            obtain ⟨t161, A90, H⟩ := H
            replace H : ((impl_RingHops.f k (wrap64 (2 + (Int.tmod (rd t155 0) 11))) (Int.tmod (rd t155 1) (wrap64 (2 + (Int.tmod (rd t155 0) 11)))) (Int.tmod (rd t155 2) (wrap64 (2 + (Int.tmod (rd t155 0) 11)))) false).bind fun t164 => ((impl_HopsBetween.f k (wrap64 (2 + (Int.tmod (rd t155 0) 11))) (Int.tmod (rd t155 1) (wrap64 (2 + (Int.tmod (rd t155 0) 11)))) (Int.tmod (rd t155 2) (wrap64 (2 + (Int.tmod (rd t155 0) 11))))).bind fun t167 => (if (t161.length : Int) = t167 then ((spec_HopsBetween.f (wrap64 (2 + (Int.tmod (rd t155 0) 11))) (Int.tmod (rd t155 1) (wrap64 (2 + (Int.tmod (rd t155 0) 11)))) (Int.tmod (rd t155 2) (wrap64 (2 + (Int.tmod (rd t155 0) 11))))).bind fun t168 => (if (t161.length : Int) = t168 then (laws_FnHops.j0 k (wrap64 (2 + (Int.tmod (rd t155 0) 11))) (Int.tmod (rd t155 1) (wrap64 (2 + (Int.tmod (rd t155 0) 11)))) t161 t164 ((t164.length : Int) != (t161.length : Int))) else (laws_FnHops.j0 k (wrap64 (2 + (Int.tmod (rd t155 0) 11))) (Int.tmod (rd t155 1) (wrap64 (2 + (Int.tmod (rd t155 0) 11)))) t161 t164 true))) else (laws_FnHops.j0 k (wrap64 (2 + (Int.tmod (rd t155 0) 11))) (Int.tmod (rd t155 1) (wrap64 (2 + (Int.tmod (rd t155 0) 11)))) t161 t164 true)))) = some r := H
            have A9 := Aside0.mk A90
            clear A90
            replace H := Option.bind_eq_some_iff.mp H
            obtain ⟨t164, A100, H⟩ := H
            replace H : ((impl_HopsBetween.f k (wrap64 (2 + (Int.tmod (rd t155 0) 11))) (Int.tmod (rd t155 1) (wrap64 (2 + (Int.tmod (rd t155 0) 11)))) (Int.tmod (rd t155 2) (wrap64 (2 + (Int.tmod (rd t155 0) 11))))).bind fun t167 => (if (t161.length : Int) = t167 then ((spec_HopsBetween.f (wrap64 (2 + (Int.tmod (rd t155 0) 11))) (Int.tmod (rd t155 1) (wrap64 (2 + (Int.tmod (rd t155 0) 11)))) (Int.tmod (rd t155 2) (wrap64 (2 + (Int.tmod (rd t155 0) 11))))).bind fun t168 => (if (t161.length : Int) = t168 then (laws_FnHops.j0 k (wrap64 (2 + (Int.tmod (rd t155 0) 11))) (Int.tmod (rd t155 1) (wrap64 (2 + (Int.tmod (rd t155 0) 11)))) t161 t164 ((t164.length : Int) != (t161.length : Int))) else (laws_FnHops.j0 k (wrap64 (2 + (Int.tmod (rd t155 0) 11))) (Int.tmod (rd t155 1) (wrap64 (2 + (Int.tmod (rd t155 0) 11)))) t161 t164 true))) else (laws_FnHops.j0 k (wrap64 (2 + (Int.tmod (rd t155 0) 11))) (Int.tmod (rd t155 1) (wrap64 (2 + (Int.tmod (rd t155 0) 11)))) t161 t164 true))) = some r := H
            have A10 := Aside0.mk A100
            clear A100
            have HC11 := Aside0.mk H
            clear H
            go_enter Try.func14, Try.ntmps14
            go_upto_region 9 with (first | (go_at_call 34; (with_reducible refine (laws_big.calls _ _ l0 false _ ?side1 ?side2 A2.out).mono ?_); (case side1 => repeat (first | exact HR0.out | (with_reducible refine Kd.C_alloc ?_ _) | (with_reducible refine Kd.C_drewN ?_ _) | (with_reducible refine Kd.C_drew ?_))); (case side2 => exact HC0.out); rintro e w' ⟨rfl, ⟨nd, rfl⟩⟩; (try first | exact ⟨rfl, _, World.drewN_drewN _ _ _⟩ | exact ⟨rfl, _, Eq.trans (World.drewN_drewN _ _ _) (congrArg (World.drewN _) (Nat.add_assoc _ _ _))⟩)) | (go_at_call 35; (with_reducible refine (spec_DrawPlaces.calls k _ _ l0 t155 _ ?side1 ?side2 A4.out).mono ?_); (case side1 => repeat (first | exact HR0.out | (with_reducible refine Kd.C_alloc ?_ _) | (with_reducible refine Kd.C_drewN ?_ _) | (with_reducible refine Kd.C_drew ?_))); (case side2 => exact HC0.out); rintro e w12 ⟨v156, rfl, ho0, hb⟩; have n0_ := Aside0.mk (Kd.R_lower ho0 (below_size (by repeat (first | (with_reducible first | exact HB.out | apply below_alloc | apply pw_below_drewN | apply below_drew1) | exact HB.out)))); have n1_ := Aside0.mk (below_step (by repeat (first | (with_reducible first | exact HB.out | apply below_alloc | apply pw_below_drewN | apply below_drew1) | exact HB.out)) hb); clear HB; have HO157 := n0_; have HB := n1_; clear n0_ n1_; (try clear hb); (try clear hb2); (try clear hk); (try clear hi); (try clear ho0); obtain ⟨Ao13, co13, eo13⟩ := Kd.R_slice HO157.out; subst eo13; have p158 : 0 ≤ (0 : Int) := (by omega); have q158 : 0 < (t155.length : Int) := of_decide_eq_true (by first | (with_reducible assumption) | assumption); obtain ⟨ad158, e158, hx158_0⟩ := Kd.at_int (Kd.R_reads' HO157.out).2.2 0 p158 q158; cases e158; have qi158 : (0 < t155.length) = True := eq_true (by omega); (try rw [show ((0 : Int)).toNat = 0 from rfl] at hx158_0); (try rw [Addr.add_zero'] at hx158_0); replace p158 := eq_true p158; replace q158 := eq_true q158; have p159 : 0 ≤ (1 : Int) := (by omega); have q159 : 1 < (t155.length : Int) := of_decide_eq_true (by first | (with_reducible assumption) | assumption); obtain ⟨ad159, e159, hx159_0⟩ := Kd.at_int (Kd.R_reads' HO157.out).2.2 1 p159 q159; obtain rfl : ad158 = ad159 := (by injection e159); (try simp only [show (1 : Int).toNat = 1 from rfl, Nat.reduceMul, Nat.reduceEqDiff, Go.Addr.add, ↓reduceIte] at hx159_0); have qi159 : (1 < t155.length) = True := eq_true (by omega); (try rw [show ((1 : Int)).toNat = 1 from rfl] at hx159_0); replace p159 := eq_true p159; replace q159 := eq_true q159; have p160 : 0 ≤ (2 : Int) := (by omega); have q160 : 2 < (t155.length : Int) := of_decide_eq_true (by first | (with_reducible assumption) | assumption); obtain ⟨ad160, e160, hx160_0⟩ := Kd.at_int (Kd.R_reads' HO157.out).2.2 2 p160 q160; obtain rfl : ad158 = ad160 := (by injection e160); (try simp only [show (2 : Int).toNat = 2 from rfl, Nat.reduceMul, Nat.reduceEqDiff, Go.Addr.add, ↓reduceIte] at hx160_0); have qi160 : (2 < t155.length) = True := eq_true (by omega); (try rw [show ((2 : Int)).toNat = 2 from rfl] at hx160_0); replace p160 := eq_true p160; replace q160 := eq_true q160) | (go_at_call 51; (with_reducible refine (impl_RingHops.calls k (wrap64 (2 + (Int.tmod (rd t155 0) 11))) (Int.tmod (rd t155 1) (wrap64 (2 + (Int.tmod (rd t155 0) 11)))) (Int.tmod (rd t155 2) (wrap64 (2 + (Int.tmod (rd t155 0) 11)))) true t161 _ A9.out).mono ?_); rintro e w14 ⟨v162, rfl, ho0, hb⟩; have n0_ := Aside0.mk (Kd.R_below (by (with_reducible repeat (first | apply Kd.R_alloc | apply Kd.R_drewN | apply Kd.R_drew)); exact HO157.out) hb); have n1_ := Aside0.mk (Kd.R_lower ho0 (below_size (by repeat (first | (with_reducible first | exact HB.out | apply below_alloc | apply pw_below_drewN | apply below_drew1) | exact HB.out)))); have n2_ := Aside0.mk (below_step (by repeat (first | (with_reducible first | exact HB.out | apply below_alloc | apply pw_below_drewN | apply below_drew1) | exact HB.out)) hb); clear HO157; clear HB; have HO157 := n0_; have HO163 := n1_; have HB := n2_; clear n0_ n1_ n2_; (try clear hb); (try clear hb2); (try clear hk); (try clear hi); (try clear ho0)) | (go_at_call 51; (with_reducible refine (impl_RingHops.calls k (wrap64 (2 + (Int.tmod (rd t155 0) 11))) (Int.tmod (rd t155 1) (wrap64 (2 + (Int.tmod (rd t155 0) 11)))) (Int.tmod (rd t155 2) (wrap64 (2 + (Int.tmod (rd t155 0) 11)))) false t164 _ A10.out).mono ?_); rintro e w15 ⟨v165, rfl, ho0, hb⟩; have n0_ := Aside0.mk (Kd.R_below (by (with_reducible repeat (first | apply Kd.R_alloc | apply Kd.R_drewN | apply Kd.R_drew)); exact HO157.out) hb); have n1_ := Aside0.mk (Kd.R_elder' (by (with_reducible repeat (first | apply Kd.R_alloc | apply Kd.R_drewN | apply Kd.R_drew)); exact HO163.out) (Kd.R_base ho0) hb); have n2_ := Aside0.mk (Kd.R_lower (Kd.R_new' ho0 (Kd.R_lt (by (with_reducible repeat (first | apply Kd.R_alloc | apply Kd.R_drewN | apply Kd.R_drew)); exact HO163.out))) (below_size (by repeat (first | (with_reducible first | exact HB.out | apply below_alloc | apply pw_below_drewN | apply below_drew1) | exact HB.out)))); have n3_ := Aside0.mk (below_step (by repeat (first | (with_reducible first | exact HB.out | apply below_alloc | apply pw_below_drewN | apply below_drew1) | exact HB.out)) hb); clear HO157; clear HO163; clear HB; have HO157 := n0_; have HO163 := n1_; have HO166 := n2_; have HB := n3_; clear n0_ n1_ n2_ n3_; (try clear hb); (try clear hb2); (try clear hk); (try clear hi); (try clear ho0)))
            repeat (go_quiet (first | (go_at_call 34; (with_reducible refine (laws_big.calls _ _ l0 false _ ?side1 ?side2 A2.out).mono ?_); (case side1 => repeat (first | exact HR0.out | (with_reducible refine Kd.C_alloc ?_ _) | (with_reducible refine Kd.C_drewN ?_ _) | (with_reducible refine Kd.C_drew ?_))); (case side2 => exact HC0.out); rintro e w' ⟨rfl, ⟨nd, rfl⟩⟩; (try first | exact ⟨rfl, _, World.drewN_drewN _ _ _⟩ | exact ⟨rfl, _, Eq.trans (World.drewN_drewN _ _ _) (congrArg (World.drewN _) (Nat.add_assoc _ _ _))⟩)) | (go_at_call 35; (with_reducible refine (spec_DrawPlaces.calls k _ _ l0 t155 _ ?side1 ?side2 A4.out).mono ?_); (case side1 => repeat (first | exact HR0.out | (with_reducible refine Kd.C_alloc ?_ _) | (with_reducible refine Kd.C_drewN ?_ _) | (with_reducible refine Kd.C_drew ?_))); (case side2 => exact HC0.out); rintro e w12 ⟨v156, rfl, ho0, hb⟩; have n0_ := Aside0.mk (Kd.R_lower ho0 (below_size (by repeat (first | (with_reducible first | exact HB.out | apply below_alloc | apply pw_below_drewN | apply below_drew1) | exact HB.out)))); have n1_ := Aside0.mk (below_step (by repeat (first | (with_reducible first | exact HB.out | apply below_alloc | apply pw_below_drewN | apply below_drew1) | exact HB.out)) hb); clear HB; have HO157 := n0_; have HB := n1_; clear n0_ n1_; (try clear hb); (try clear hb2); (try clear hk); (try clear hi); (try clear ho0); obtain ⟨Ao13, co13, eo13⟩ := Kd.R_slice HO157.out; subst eo13; have p158 : 0 ≤ (0 : Int) := (by omega); have q158 : 0 < (t155.length : Int) := of_decide_eq_true (by first | (with_reducible assumption) | assumption); obtain ⟨ad158, e158, hx158_0⟩ := Kd.at_int (Kd.R_reads' HO157.out).2.2 0 p158 q158; cases e158; have qi158 : (0 < t155.length) = True := eq_true (by omega); (try rw [show ((0 : Int)).toNat = 0 from rfl] at hx158_0); (try rw [Addr.add_zero'] at hx158_0); replace p158 := eq_true p158; replace q158 := eq_true q158; have p159 : 0 ≤ (1 : Int) := (by omega); have q159 : 1 < (t155.length : Int) := of_decide_eq_true (by first | (with_reducible assumption) | assumption); obtain ⟨ad159, e159, hx159_0⟩ := Kd.at_int (Kd.R_reads' HO157.out).2.2 1 p159 q159; obtain rfl : ad158 = ad159 := (by injection e159); (try simp only [show (1 : Int).toNat = 1 from rfl, Nat.reduceMul, Nat.reduceEqDiff, Go.Addr.add, ↓reduceIte] at hx159_0); have qi159 : (1 < t155.length) = True := eq_true (by omega); (try rw [show ((1 : Int)).toNat = 1 from rfl] at hx159_0); replace p159 := eq_true p159; replace q159 := eq_true q159; have p160 : 0 ≤ (2 : Int) := (by omega); have q160 : 2 < (t155.length : Int) := of_decide_eq_true (by first | (with_reducible assumption) | assumption); obtain ⟨ad160, e160, hx160_0⟩ := Kd.at_int (Kd.R_reads' HO157.out).2.2 2 p160 q160; obtain rfl : ad158 = ad160 := (by injection e160); (try simp only [show (2 : Int).toNat = 2 from rfl, Nat.reduceMul, Nat.reduceEqDiff, Go.Addr.add, ↓reduceIte] at hx160_0); have qi160 : (2 < t155.length) = True := eq_true (by omega); (try rw [show ((2 : Int)).toNat = 2 from rfl] at hx160_0); replace p160 := eq_true p160; replace q160 := eq_true q160) | (go_at_call 51; (with_reducible refine (impl_RingHops.calls k (wrap64 (2 + (Int.tmod (rd t155 0) 11))) (Int.tmod (rd t155 1) (wrap64 (2 + (Int.tmod (rd t155 0) 11)))) (Int.tmod (rd t155 2) (wrap64 (2 + (Int.tmod (rd t155 0) 11)))) true t161 _ A9.out).mono ?_); rintro e w14 ⟨v162, rfl, ho0, hb⟩; have n0_ := Aside0.mk (Kd.R_below (by (with_reducible repeat (first | apply Kd.R_alloc | apply Kd.R_drewN | apply Kd.R_drew)); exact HO157.out) hb); have n1_ := Aside0.mk (Kd.R_lower ho0 (below_size (by repeat (first | (with_reducible first | exact HB.out | apply below_alloc | apply pw_below_drewN | apply below_drew1) | exact HB.out)))); have n2_ := Aside0.mk (below_step (by repeat (first | (with_reducible first | exact HB.out | apply below_alloc | apply pw_below_drewN | apply below_drew1) | exact HB.out)) hb); clear HO157; clear HB; have HO157 := n0_; have HO163 := n1_; have HB := n2_; clear n0_ n1_ n2_; (try clear hb); (try clear hb2); (try clear hk); (try clear hi); (try clear ho0)) | (go_at_call 51; (with_reducible refine (impl_RingHops.calls k (wrap64 (2 + (Int.tmod (rd t155 0) 11))) (Int.tmod (rd t155 1) (wrap64 (2 + (Int.tmod (rd t155 0) 11)))) (Int.tmod (rd t155 2) (wrap64 (2 + (Int.tmod (rd t155 0) 11)))) false t164 _ A10.out).mono ?_); rintro e w15 ⟨v165, rfl, ho0, hb⟩; have n0_ := Aside0.mk (Kd.R_below (by (with_reducible repeat (first | apply Kd.R_alloc | apply Kd.R_drewN | apply Kd.R_drew)); exact HO157.out) hb); have n1_ := Aside0.mk (Kd.R_elder' (by (with_reducible repeat (first | apply Kd.R_alloc | apply Kd.R_drewN | apply Kd.R_drew)); exact HO163.out) (Kd.R_base ho0) hb); have n2_ := Aside0.mk (Kd.R_lower (Kd.R_new' ho0 (Kd.R_lt (by (with_reducible repeat (first | apply Kd.R_alloc | apply Kd.R_drewN | apply Kd.R_drew)); exact HO163.out))) (below_size (by repeat (first | (with_reducible first | exact HB.out | apply below_alloc | apply pw_below_drewN | apply below_drew1) | exact HB.out)))); have n3_ := Aside0.mk (below_step (by repeat (first | (with_reducible first | exact HB.out | apply below_alloc | apply pw_below_drewN | apply below_drew1) | exact HB.out)) hb); clear HO157; clear HO163; clear HB; have HO157 := n0_; have HO163 := n1_; have HO166 := n2_; have HB := n3_; clear n0_ n1_ n2_ n3_; (try clear hb); (try clear hb2); (try clear hk); (try clear hi); (try clear ho0))); go_upto_region 9 with (first | (go_at_call 34; (with_reducible refine (laws_big.calls _ _ l0 false _ ?side1 ?side2 A2.out).mono ?_); (case side1 => repeat (first | exact HR0.out | (with_reducible refine Kd.C_alloc ?_ _) | (with_reducible refine Kd.C_drewN ?_ _) | (with_reducible refine Kd.C_drew ?_))); (case side2 => exact HC0.out); rintro e w' ⟨rfl, ⟨nd, rfl⟩⟩; (try first | exact ⟨rfl, _, World.drewN_drewN _ _ _⟩ | exact ⟨rfl, _, Eq.trans (World.drewN_drewN _ _ _) (congrArg (World.drewN _) (Nat.add_assoc _ _ _))⟩)) | (go_at_call 35; (with_reducible refine (spec_DrawPlaces.calls k _ _ l0 t155 _ ?side1 ?side2 A4.out).mono ?_); (case side1 => repeat (first | exact HR0.out | (with_reducible refine Kd.C_alloc ?_ _) | (with_reducible refine Kd.C_drewN ?_ _) | (with_reducible refine Kd.C_drew ?_))); (case side2 => exact HC0.out); rintro e w12 ⟨v156, rfl, ho0, hb⟩; have n0_ := Aside0.mk (Kd.R_lower ho0 (below_size (by repeat (first | (with_reducible first | exact HB.out | apply below_alloc | apply pw_below_drewN | apply below_drew1) | exact HB.out)))); have n1_ := Aside0.mk (below_step (by repeat (first | (with_reducible first | exact HB.out | apply below_alloc | apply pw_below_drewN | apply below_drew1) | exact HB.out)) hb); clear HB; have HO157 := n0_; have HB := n1_; clear n0_ n1_; (try clear hb); (try clear hb2); (try clear hk); (try clear hi); (try clear ho0); obtain ⟨Ao13, co13, eo13⟩ := Kd.R_slice HO157.out; subst eo13; have p158 : 0 ≤ (0 : Int) := (by omega); have q158 : 0 < (t155.length : Int) := of_decide_eq_true (by first | (with_reducible assumption) | assumption); obtain ⟨ad158, e158, hx158_0⟩ := Kd.at_int (Kd.R_reads' HO157.out).2.2 0 p158 q158; cases e158; have qi158 : (0 < t155.length) = True := eq_true (by omega); (try rw [show ((0 : Int)).toNat = 0 from rfl] at hx158_0); (try rw [Addr.add_zero'] at hx158_0); replace p158 := eq_true p158; replace q158 := eq_true q158; have p159 : 0 ≤ (1 : Int) := (by omega); have q159 : 1 < (t155.length : Int) := of_decide_eq_true (by first | (with_reducible assumption) | assumption); obtain ⟨ad159, e159, hx159_0⟩ := Kd.at_int (Kd.R_reads' HO157.out).2.2 1 p159 q159; obtain rfl : ad158 = ad159 := (by injection e159); (try simp only [show (1 : Int).toNat = 1 from rfl, Nat.reduceMul, Nat.reduceEqDiff, Go.Addr.add, ↓reduceIte] at hx159_0); have qi159 : (1 < t155.length) = True := eq_true (by omega); (try rw [show ((1 : Int)).toNat = 1 from rfl] at hx159_0); replace p159 := eq_true p159; replace q159 := eq_true q159; have p160 : 0 ≤ (2 : Int) := (by omega); have q160 : 2 < (t155.length : Int) := of_decide_eq_true (by first | (with_reducible assumption) | assumption); obtain ⟨ad160, e160, hx160_0⟩ := Kd.at_int (Kd.R_reads' HO157.out).2.2 2 p160 q160; obtain rfl : ad158 = ad160 := (by injection e160); (try simp only [show (2 : Int).toNat = 2 from rfl, Nat.reduceMul, Nat.reduceEqDiff, Go.Addr.add, ↓reduceIte] at hx160_0); have qi160 : (2 < t155.length) = True := eq_true (by omega); (try rw [show ((2 : Int)).toNat = 2 from rfl] at hx160_0); replace p160 := eq_true p160; replace q160 := eq_true q160) | (go_at_call 51; (with_reducible refine (impl_RingHops.calls k (wrap64 (2 + (Int.tmod (rd t155 0) 11))) (Int.tmod (rd t155 1) (wrap64 (2 + (Int.tmod (rd t155 0) 11)))) (Int.tmod (rd t155 2) (wrap64 (2 + (Int.tmod (rd t155 0) 11)))) true t161 _ A9.out).mono ?_); rintro e w14 ⟨v162, rfl, ho0, hb⟩; have n0_ := Aside0.mk (Kd.R_below (by (with_reducible repeat (first | apply Kd.R_alloc | apply Kd.R_drewN | apply Kd.R_drew)); exact HO157.out) hb); have n1_ := Aside0.mk (Kd.R_lower ho0 (below_size (by repeat (first | (with_reducible first | exact HB.out | apply below_alloc | apply pw_below_drewN | apply below_drew1) | exact HB.out)))); have n2_ := Aside0.mk (below_step (by repeat (first | (with_reducible first | exact HB.out | apply below_alloc | apply pw_below_drewN | apply below_drew1) | exact HB.out)) hb); clear HO157; clear HB; have HO157 := n0_; have HO163 := n1_; have HB := n2_; clear n0_ n1_ n2_; (try clear hb); (try clear hb2); (try clear hk); (try clear hi); (try clear ho0)) | (go_at_call 51; (with_reducible refine (impl_RingHops.calls k (wrap64 (2 + (Int.tmod (rd t155 0) 11))) (Int.tmod (rd t155 1) (wrap64 (2 + (Int.tmod (rd t155 0) 11)))) (Int.tmod (rd t155 2) (wrap64 (2 + (Int.tmod (rd t155 0) 11)))) false t164 _ A10.out).mono ?_); rintro e w15 ⟨v165, rfl, ho0, hb⟩; have n0_ := Aside0.mk (Kd.R_below (by (with_reducible repeat (first | apply Kd.R_alloc | apply Kd.R_drewN | apply Kd.R_drew)); exact HO157.out) hb); have n1_ := Aside0.mk (Kd.R_elder' (by (with_reducible repeat (first | apply Kd.R_alloc | apply Kd.R_drewN | apply Kd.R_drew)); exact HO163.out) (Kd.R_base ho0) hb); have n2_ := Aside0.mk (Kd.R_lower (Kd.R_new' ho0 (Kd.R_lt (by (with_reducible repeat (first | apply Kd.R_alloc | apply Kd.R_drewN | apply Kd.R_drew)); exact HO163.out))) (below_size (by repeat (first | (with_reducible first | exact HB.out | apply below_alloc | apply pw_below_drewN | apply below_drew1) | exact HB.out)))); have n3_ := Aside0.mk (below_step (by repeat (first | (with_reducible first | exact HB.out | apply below_alloc | apply pw_below_drewN | apply below_drew1) | exact HB.out)) hb); clear HO157; clear HO163; clear HB; have HO157 := n0_; have HO163 := n1_; have HO166 := n2_; have HB := n3_; clear n0_ n1_ n2_ n3_; (try clear hb); (try clear hb2); (try clear hk); (try clear hi); (try clear ho0))))
            (try simp only [Act.put, List.setIfInBounds_toArray, List.set_cons_zero, List.set_cons_succ])
            go_cut [59] (fun v59 wc => ∃ (kq : Nat) (x59_10 : Bool), v59 = .bool x59_10 ∧ Aside0 (laws_FnHops.j0 kq (wrap64 (2 + (Int.tmod (rd t155 0) 11))) (Int.tmod (rd t155 1) (wrap64 (2 + (Int.tmod (rd t155 0) 11)))) t161 t164 x59_10 = some r) ∧ Aside0 (kq ≤ k) ∧ Aside0 (Kd.R k70 70 wc w.heap.size (fun k_ => some k_ ≠ (v165 : Value).ownBlock) v162 t161) ∧ Aside0 (Kd.R k70 70 wc w.heap.size (fun k_ => some k_ ≠ (v162 : Value).ownBlock) v165 t164) ∧ Aside0 (Below w.heap.size w wc))
            case first =>
              have H := HC11.out
              clear HC11
              replace H := Option.bind_eq_some_iff.mp H
              obtain ⟨t167, A160, H⟩ := H
              replace H : (if (t161.length : Int) = t167 then ((spec_HopsBetween.f (wrap64 (2 + (Int.tmod (rd t155 0) 11))) (Int.tmod (rd t155 1) (wrap64 (2 + (Int.tmod (rd t155 0) 11)))) (Int.tmod (rd t155 2) (wrap64 (2 + (Int.tmod (rd t155 0) 11))))).bind fun t168 => (if (t161.length : Int) = t168 then (laws_FnHops.j0 k (wrap64 (2 + (Int.tmod (rd t155 0) 11))) (Int.tmod (rd t155 1) (wrap64 (2 + (Int.tmod (rd t155 0) 11)))) t161 t164 ((t164.length : Int) != (t161.length : Int))) else (laws_FnHops.j0 k (wrap64 (2 + (Int.tmod (rd t155 0) 11))) (Int.tmod (rd t155 1) (wrap64 (2 + (Int.tmod (rd t155 0) 11)))) t161 t164 true))) else (laws_FnHops.j0 k (wrap64 (2 + (Int.tmod (rd t155 0) 11))) (Int.tmod (rd t155 1) (wrap64 (2 + (Int.tmod (rd t155 0) 11)))) t161 t164 true)) = some r := H
              have A16 := Aside0.mk A160
              clear A160
              by_cases c17 : (t161.length : Int) = t167
              · rw [if_pos c17] at H
                have c17b0 : ((t161.length : Int) == t167) = true := beq_iff_eq.mpr c17
                have c17b1 : ((t161.length : Int) != t167) = false := bne_eq_false_iff_eq.mpr c17
                clear c17
                (first | rw [c17b0] | (simp only [i64_w, i32_w]; rw [c17b0]) | skip)
                replace H := Option.bind_eq_some_iff.mp H
                obtain ⟨t168, A180, H⟩ := H
                replace H : (if (t161.length : Int) = t168 then (laws_FnHops.j0 k (wrap64 (2 + (Int.tmod (rd t155 0) 11))) (Int.tmod (rd t155 1) (wrap64 (2 + (Int.tmod (rd t155 0) 11)))) t161 t164 ((t164.length : Int) != (t161.length : Int))) else (laws_FnHops.j0 k (wrap64 (2 + (Int.tmod (rd t155 0) 11))) (Int.tmod (rd t155 1) (wrap64 (2 + (Int.tmod (rd t155 0) 11)))) t161 t164 true)) = some r := H
                have A18 := Aside0.mk A180
                clear A180
                by_cases c19 : (t161.length : Int) = t168
                · rw [if_pos c19] at H
                  have c19b0 : ((t161.length : Int) == t168) = true := beq_iff_eq.mpr c19
                  have c19b1 : ((t161.length : Int) != t168) = false := bne_eq_false_iff_eq.mpr c19
                  clear c19
                  have H' := Aside0.mk H
                  clear H
                  obtain ⟨Ao20, co20, eo20⟩ := Kd.R_slice HO163.out
                  subst eo20
                  go_wp2_with (first | (go_at_call 20; (with_reducible refine (impl_HopsBetween.calls k (wrap64 (2 + (Int.tmod (rd t155 0) 11))) (Int.tmod (rd t155 1) (wrap64 (2 + (Int.tmod (rd t155 0) 11)))) (Int.tmod (rd t155 2) (wrap64 (2 + (Int.tmod (rd t155 0) 11)))) t167 _ A16.out).mono ?_); rintro e w21 ⟨rfl, hb⟩; have n0_ := Aside0.mk (Kd.R_below (by (with_reducible repeat (first | apply Kd.R_alloc | apply Kd.R_drewN | apply Kd.R_drew)); exact HO157.out) hb); have n1_ := Aside0.mk (Kd.R_below (by (with_reducible repeat (first | apply Kd.R_alloc | apply Kd.R_drewN | apply Kd.R_drew)); exact HO163.out) hb); have n2_ := Aside0.mk (Kd.R_below (by (with_reducible repeat (first | apply Kd.R_alloc | apply Kd.R_drewN | apply Kd.R_drew)); exact HO166.out) hb); have n3_ := Aside0.mk (below_step (by repeat (first | (with_reducible first | exact HB.out | apply below_alloc | apply pw_below_drewN | apply below_drew1) | exact HB.out)) hb); clear HO157; clear HO163; clear HO166; clear HB; have HO157 := n0_; have HO163 := n1_; have HO166 := n2_; have HB := n3_; clear n0_ n1_ n2_ n3_; (try clear hb); (try clear hb2); (try clear hk); (try clear hi)) | (go_at_call 19; (with_reducible refine (spec_HopsBetween.calls (wrap64 (2 + (Int.tmod (rd t155 0) 11))) (Int.tmod (rd t155 1) (wrap64 (2 + (Int.tmod (rd t155 0) 11)))) (Int.tmod (rd t155 2) (wrap64 (2 + (Int.tmod (rd t155 0) 11)))) t168 _ A18.out).mono ?_); rintro e w' ⟨rfl, ⟨nd, rfl⟩⟩; (try first | exact ⟨rfl, _, World.drewN_drewN _ _ _⟩ | exact ⟨rfl, _, Eq.trans (World.drewN_drewN _ _ _) (congrArg (World.drewN _) (Nat.add_assoc _ _ _))⟩); obtain ⟨Ao22, co22, eo22⟩ := Kd.R_slice HO166.out; subst eo22))
                  repeat (go_quiet (first | (go_at_call 20; (with_reducible refine (impl_HopsBetween.calls k (wrap64 (2 + (Int.tmod (rd t155 0) 11))) (Int.tmod (rd t155 1) (wrap64 (2 + (Int.tmod (rd t155 0) 11)))) (Int.tmod (rd t155 2) (wrap64 (2 + (Int.tmod (rd t155 0) 11)))) t167 _ A16.out).mono ?_); rintro e w21 ⟨rfl, hb⟩; have n0_ := Aside0.mk (Kd.R_below (by (with_reducible repeat (first | apply Kd.R_alloc | apply Kd.R_drewN | apply Kd.R_drew)); exact HO157.out) hb); have n1_ := Aside0.mk (Kd.R_below (by (with_reducible repeat (first | apply Kd.R_alloc | apply Kd.R_drewN | apply Kd.R_drew)); exact HO163.out) hb); have n2_ := Aside0.mk (Kd.R_below (by (with_reducible repeat (first | apply Kd.R_alloc | apply Kd.R_drewN | apply Kd.R_drew)); exact HO166.out) hb); have n3_ := Aside0.mk (below_step (by repeat (first | (with_reducible first | exact HB.out | apply below_alloc | apply pw_below_drewN | apply below_drew1) | exact HB.out)) hb); clear HO157; clear HO163; clear HO166; clear HB; have HO157 := n0_; have HO163 := n1_; have HO166 := n2_; have HB := n3_; clear n0_ n1_ n2_ n3_; (try clear hb); (try clear hb2); (try clear hk); (try clear hi)) | (go_at_call 19; (with_reducible refine (spec_HopsBetween.calls (wrap64 (2 + (Int.tmod (rd t155 0) 11))) (Int.tmod (rd t155 1) (wrap64 (2 + (Int.tmod (rd t155 0) 11)))) (Int.tmod (rd t155 2) (wrap64 (2 + (Int.tmod (rd t155 0) 11)))) t168 _ A18.out).mono ?_); rintro e w' ⟨rfl, ⟨nd, rfl⟩⟩; (try first | exact ⟨rfl, _, World.drewN_drewN _ _ _⟩ | exact ⟨rfl, _, Eq.trans (World.drewN_drewN _ _ _) (congrArg (World.drewN _) (Nat.add_assoc _ _ _))⟩); obtain ⟨Ao22, co22, eo22⟩ := Kd.R_slice HO166.out; subst eo22)); try go_wp2_with (first | (go_at_call 20; (with_reducible refine (impl_HopsBetween.calls k (wrap64 (2 + (Int.tmod (rd t155 0) 11))) (Int.tmod (rd t155 1) (wrap64 (2 + (Int.tmod (rd t155 0) 11)))) (Int.tmod (rd t155 2) (wrap64 (2 + (Int.tmod (rd t155 0) 11)))) t167 _ A16.out).mono ?_); rintro e w21 ⟨rfl, hb⟩; have n0_ := Aside0.mk (Kd.R_below (by (with_reducible repeat (first | apply Kd.R_alloc | apply Kd.R_drewN | apply Kd.R_drew)); exact HO157.out) hb); have n1_ := Aside0.mk (Kd.R_below (by (with_reducible repeat (first | apply Kd.R_alloc | apply Kd.R_drewN | apply Kd.R_drew)); exact HO163.out) hb); have n2_ := Aside0.mk (Kd.R_below (by (with_reducible repeat (first | apply Kd.R_alloc | apply Kd.R_drewN | apply Kd.R_drew)); exact HO166.out) hb); have n3_ := Aside0.mk (below_step (by repeat (first | (with_reducible first | exact HB.out | apply below_alloc | apply pw_below_drewN | apply below_drew1) | exact HB.out)) hb); clear HO157; clear HO163; clear HO166; clear HB; have HO157 := n0_; have HO163 := n1_; have HO166 := n2_; have HB := n3_; clear n0_ n1_ n2_ n3_; (try clear hb); (try clear hb2); (try clear hk); (try clear hi)) | (go_at_call 19; (with_reducible refine (spec_HopsBetween.calls (wrap64 (2 + (Int.tmod (rd t155 0) 11))) (Int.tmod (rd t155 1) (wrap64 (2 + (Int.tmod (rd t155 0) 11)))) (Int.tmod (rd t155 2) (wrap64 (2 + (Int.tmod (rd t155 0) 11)))) t168 _ A18.out).mono ?_); rintro e w' ⟨rfl, ⟨nd, rfl⟩⟩; (try first | exact ⟨rfl, _, World.drewN_drewN _ _ _⟩ | exact ⟨rfl, _, Eq.trans (World.drewN_drewN _ _ _) (congrArg (World.drewN _) (Nat.add_assoc _ _ _))⟩); obtain ⟨Ao22, co22, eo22⟩ := Kd.R_slice HO166.out; subst eo22)))
                  go_meet
                  case rel => exact ⟨_, (((t164.length : Int) != (t161.length : Int))), (by first | rfl | (simp; done) | (simp [*]; done)), H', ⟨by first | omega | exact Nat.le_refl _⟩, ⟨by (with_reducible repeat (first | apply Kd.R_alloc | apply Kd.R_drewN | apply Kd.R_drew)); exact Kd.R_mono HO163.out (fun _ hk => hk.2)⟩, ⟨by (with_reducible repeat (first | apply Kd.R_alloc | apply Kd.R_drewN | apply Kd.R_drew)); exact Kd.R_mono HO166.out (fun _ hk => hk.2)⟩, ⟨by repeat (first | (with_reducible first | exact HB.out | apply below_alloc | apply pw_below_drewN | apply below_drew1) | exact HB.out)⟩⟩
                · rw [if_neg c19] at H
                  have c19b0 : ((t161.length : Int) == t168) = false := beq_eq_false_iff_ne.mpr c19
                  have c19b1 : ((t161.length : Int) != t168) = true := bne_iff_ne.mpr c19
                  have H' := Aside0.mk H
                  clear H
                  obtain ⟨Ao23, co23, eo23⟩ := Kd.R_slice HO163.out
                  subst eo23
                  go_wp2_with (first | (go_at_call 20; (with_reducible refine (impl_HopsBetween.calls k (wrap64 (2 + (Int.tmod (rd t155 0) 11))) (Int.tmod (rd t155 1) (wrap64 (2 + (Int.tmod (rd t155 0) 11)))) (Int.tmod (rd t155 2) (wrap64 (2 + (Int.tmod (rd t155 0) 11)))) t167 _ A16.out).mono ?_); rintro e w24 ⟨rfl, hb⟩; have n0_ := Aside0.mk (Kd.R_below (by (with_reducible repeat (first | apply Kd.R_alloc | apply Kd.R_drewN | apply Kd.R_drew)); exact HO157.out) hb); have n1_ := Aside0.mk (Kd.R_below (by (with_reducible repeat (first | apply Kd.R_alloc | apply Kd.R_drewN | apply Kd.R_drew)); exact HO163.out) hb); have n2_ := Aside0.mk (Kd.R_below (by (with_reducible repeat (first | apply Kd.R_alloc | apply Kd.R_drewN | apply Kd.R_drew)); exact HO166.out) hb); have n3_ := Aside0.mk (below_step (by repeat (first | (with_reducible first | exact HB.out | apply below_alloc | apply pw_below_drewN | apply below_drew1) | exact HB.out)) hb); clear HO157; clear HO163; clear HO166; clear HB; have HO157 := n0_; have HO163 := n1_; have HO166 := n2_; have HB := n3_; clear n0_ n1_ n2_ n3_; (try clear hb); (try clear hb2); (try clear hk); (try clear hi)) | (go_at_call 19; (with_reducible refine (spec_HopsBetween.calls (wrap64 (2 + (Int.tmod (rd t155 0) 11))) (Int.tmod (rd t155 1) (wrap64 (2 + (Int.tmod (rd t155 0) 11)))) (Int.tmod (rd t155 2) (wrap64 (2 + (Int.tmod (rd t155 0) 11)))) t168 _ A18.out).mono ?_); rintro e w' ⟨rfl, ⟨nd, rfl⟩⟩; (try first | exact ⟨rfl, _, World.drewN_drewN _ _ _⟩ | exact ⟨rfl, _, Eq.trans (World.drewN_drewN _ _ _) (congrArg (World.drewN _) (Nat.add_assoc _ _ _))⟩)))
                  repeat (go_quiet (first | (go_at_call 20; (with_reducible refine (impl_HopsBetween.calls k (wrap64 (2 + (Int.tmod (rd t155 0) 11))) (Int.tmod (rd t155 1) (wrap64 (2 + (Int.tmod (rd t155 0) 11)))) (Int.tmod (rd t155 2) (wrap64 (2 + (Int.tmod (rd t155 0) 11)))) t167 _ A16.out).mono ?_); rintro e w24 ⟨rfl, hb⟩; have n0_ := Aside0.mk (Kd.R_below (by (with_reducible repeat (first | apply Kd.R_alloc | apply Kd.R_drewN | apply Kd.R_drew)); exact HO157.out) hb); have n1_ := Aside0.mk (Kd.R_below (by (with_reducible repeat (first | apply Kd.R_alloc | apply Kd.R_drewN | apply Kd.R_drew)); exact HO163.out) hb); have n2_ := Aside0.mk (Kd.R_below (by (with_reducible repeat (first | apply Kd.R_alloc | apply Kd.R_drewN | apply Kd.R_drew)); exact HO166.out) hb); have n3_ := Aside0.mk (below_step (by repeat (first | (with_reducible first | exact HB.out | apply below_alloc | apply pw_below_drewN | apply below_drew1) | exact HB.out)) hb); clear HO157; clear HO163; clear HO166; clear HB; have HO157 := n0_; have HO163 := n1_; have HO166 := n2_; have HB := n3_; clear n0_ n1_ n2_ n3_; (try clear hb); (try clear hb2); (try clear hk); (try clear hi)) | (go_at_call 19; (with_reducible refine (spec_HopsBetween.calls (wrap64 (2 + (Int.tmod (rd t155 0) 11))) (Int.tmod (rd t155 1) (wrap64 (2 + (Int.tmod (rd t155 0) 11)))) (Int.tmod (rd t155 2) (wrap64 (2 + (Int.tmod (rd t155 0) 11)))) t168 _ A18.out).mono ?_); rintro e w' ⟨rfl, ⟨nd, rfl⟩⟩; (try first | exact ⟨rfl, _, World.drewN_drewN _ _ _⟩ | exact ⟨rfl, _, Eq.trans (World.drewN_drewN _ _ _) (congrArg (World.drewN _) (Nat.add_assoc _ _ _))⟩))); try go_wp2_with (first | (go_at_call 20; (with_reducible refine (impl_HopsBetween.calls k (wrap64 (2 + (Int.tmod (rd t155 0) 11))) (Int.tmod (rd t155 1) (wrap64 (2 + (Int.tmod (rd t155 0) 11)))) (Int.tmod (rd t155 2) (wrap64 (2 + (Int.tmod (rd t155 0) 11)))) t167 _ A16.out).mono ?_); rintro e w24 ⟨rfl, hb⟩; have n0_ := Aside0.mk (Kd.R_below (by (with_reducible repeat (first | apply Kd.R_alloc | apply Kd.R_drewN | apply Kd.R_drew)); exact HO157.out) hb); have n1_ := Aside0.mk (Kd.R_below (by (with_reducible repeat (first | apply Kd.R_alloc | apply Kd.R_drewN | apply Kd.R_drew)); exact HO163.out) hb); have n2_ := Aside0.mk (Kd.R_below (by (with_reducible repeat (first | apply Kd.R_alloc | apply Kd.R_drewN | apply Kd.R_drew)); exact HO166.out) hb); have n3_ := Aside0.mk (below_step (by repeat (first | (with_reducible first | exact HB.out | apply below_alloc | apply pw_below_drewN | apply below_drew1) | exact HB.out)) hb); clear HO157; clear HO163; clear HO166; clear HB; have HO157 := n0_; have HO163 := n1_; have HO166 := n2_; have HB := n3_; clear n0_ n1_ n2_ n3_; (try clear hb); (try clear hb2); (try clear hk); (try clear hi)) | (go_at_call 19; (with_reducible refine (spec_HopsBetween.calls (wrap64 (2 + (Int.tmod (rd t155 0) 11))) (Int.tmod (rd t155 1) (wrap64 (2 + (Int.tmod (rd t155 0) 11)))) (Int.tmod (rd t155 2) (wrap64 (2 + (Int.tmod (rd t155 0) 11)))) t168 _ A18.out).mono ?_); rintro e w' ⟨rfl, ⟨nd, rfl⟩⟩; (try first | exact ⟨rfl, _, World.drewN_drewN _ _ _⟩ | exact ⟨rfl, _, Eq.trans (World.drewN_drewN _ _ _) (congrArg (World.drewN _) (Nat.add_assoc _ _ _))⟩))))
                  go_meet
                  case rel => exact ⟨_, (true), (by first | rfl | (simp; done) | (simp [*]; done)), H', ⟨by first | omega | exact Nat.le_refl _⟩, ⟨by (with_reducible repeat (first | apply Kd.R_alloc | apply Kd.R_drewN | apply Kd.R_drew)); exact Kd.R_mono HO163.out (fun _ hk => hk.2)⟩, ⟨by (with_reducible repeat (first | apply Kd.R_alloc | apply Kd.R_drewN | apply Kd.R_drew)); exact Kd.R_mono HO166.out (fun _ hk => hk.2)⟩, ⟨by repeat (first | (with_reducible first | exact HB.out | apply below_alloc | apply pw_below_drewN | apply below_drew1) | exact HB.out)⟩⟩
              · rw [if_neg c17] at H
                have c17b0 : ((t161.length : Int) == t167) = false := beq_eq_false_iff_ne.mpr c17
                have c17b1 : ((t161.length : Int) != t167) = true := bne_iff_ne.mpr c17
                (first | rw [c17b0] | (simp only [i64_w, i32_w]; rw [c17b0]) | skip)
                have H' := Aside0.mk H
                clear H
                obtain ⟨Ao25, co25, eo25⟩ := Kd.R_slice HO163.out
                subst eo25
                go_wp2_with (first | (go_at_call 20; (with_reducible refine (impl_HopsBetween.calls k (wrap64 (2 + (Int.tmod (rd t155 0) 11))) (Int.tmod (rd t155 1) (wrap64 (2 + (Int.tmod (rd t155 0) 11)))) (Int.tmod (rd t155 2) (wrap64 (2 + (Int.tmod (rd t155 0) 11)))) t167 _ A16.out).mono ?_); rintro e w26 ⟨rfl, hb⟩; have n0_ := Aside0.mk (Kd.R_below (by (with_reducible repeat (first | apply Kd.R_alloc | apply Kd.R_drewN | apply Kd.R_drew)); exact HO157.out) hb); have n1_ := Aside0.mk (Kd.R_below (by (with_reducible repeat (first | apply Kd.R_alloc | apply Kd.R_drewN | apply Kd.R_drew)); exact HO163.out) hb); have n2_ := Aside0.mk (Kd.R_below (by (with_reducible repeat (first | apply Kd.R_alloc | apply Kd.R_drewN | apply Kd.R_drew)); exact HO166.out) hb); have n3_ := Aside0.mk (below_step (by repeat (first | (with_reducible first | exact HB.out | apply below_alloc | apply pw_below_drewN | apply below_drew1) | exact HB.out)) hb); clear HO157; clear HO163; clear HO166; clear HB; have HO157 := n0_; have HO163 := n1_; have HO166 := n2_; have HB := n3_; clear n0_ n1_ n2_ n3_; (try clear hb); (try clear hb2); (try clear hk); (try clear hi)))
                repeat (go_quiet (first | (go_at_call 20; (with_reducible refine (impl_HopsBetween.calls k (wrap64 (2 + (Int.tmod (rd t155 0) 11))) (Int.tmod (rd t155 1) (wrap64 (2 + (Int.tmod (rd t155 0) 11)))) (Int.tmod (rd t155 2) (wrap64 (2 + (Int.tmod (rd t155 0) 11)))) t167 _ A16.out).mono ?_); rintro e w26 ⟨rfl, hb⟩; have n0_ := Aside0.mk (Kd.R_below (by (with_reducible repeat (first | apply Kd.R_alloc | apply Kd.R_drewN | apply Kd.R_drew)); exact HO157.out) hb); have n1_ := Aside0.mk (Kd.R_below (by (with_reducible repeat (first | apply Kd.R_alloc | apply Kd.R_drewN | apply Kd.R_drew)); exact HO163.out) hb); have n2_ := Aside0.mk (Kd.R_below (by (with_reducible repeat (first | apply Kd.R_alloc | apply Kd.R_drewN | apply Kd.R_drew)); exact HO166.out) hb); have n3_ := Aside0.mk (below_step (by repeat (first | (with_reducible first | exact HB.out | apply below_alloc | apply pw_below_drewN | apply below_drew1) | exact HB.out)) hb); clear HO157; clear HO163; clear HO166; clear HB; have HO157 := n0_; have HO163 := n1_; have HO166 := n2_; have HB := n3_; clear n0_ n1_ n2_ n3_; (try clear hb); (try clear hb2); (try clear hk); (try clear hi))); try go_wp2_with (first | (go_at_call 20; (with_reducible refine (impl_HopsBetween.calls k (wrap64 (2 + (Int.tmod (rd t155 0) 11))) (Int.tmod (rd t155 1) (wrap64 (2 + (Int.tmod (rd t155 0) 11)))) (Int.tmod (rd t155 2) (wrap64 (2 + (Int.tmod (rd t155 0) 11)))) t167 _ A16.out).mono ?_); rintro e w26 ⟨rfl, hb⟩; have n0_ := Aside0.mk (Kd.R_below (by (with_reducible repeat (first | apply Kd.R_alloc | apply Kd.R_drewN | apply Kd.R_drew)); exact HO157.out) hb); have n1_ := Aside0.mk (Kd.R_below (by (with_reducible repeat (first | apply Kd.R_alloc | apply Kd.R_drewN | apply Kd.R_drew)); exact HO163.out) hb); have n2_ := Aside0.mk (Kd.R_below (by (with_reducible repeat (first | apply Kd.R_alloc | apply Kd.R_drewN | apply Kd.R_drew)); exact HO166.out) hb); have n3_ := Aside0.mk (below_step (by repeat (first | (with_reducible first | exact HB.out | apply below_alloc | apply pw_below_drewN | apply below_drew1) | exact HB.out)) hb); clear HO157; clear HO163; clear HO166; clear HB; have HO157 := n0_; have HO163 := n1_; have HO166 := n2_; have HB := n3_; clear n0_ n1_ n2_ n3_; (try clear hb); (try clear hb2); (try clear hk); (try clear hi))))
                go_meet
                case rel => exact ⟨_, (true), (by first | rfl | (simp; done) | (simp [*]; done)), H', ⟨by first | omega | exact Nat.le_refl _⟩, ⟨by (with_reducible repeat (first | apply Kd.R_alloc | apply Kd.R_drewN | apply Kd.R_drew)); exact Kd.R_mono HO163.out (fun _ hk => hk.2)⟩, ⟨by (with_reducible repeat (first | apply Kd.R_alloc | apply Kd.R_drewN | apply Kd.R_drew)); exact Kd.R_mono HO166.out (fun _ hk => hk.2)⟩, ⟨by repeat (first | (with_reducible first | exact HB.out | apply below_alloc | apply pw_below_drewN | apply below_drew1) | exact HB.out)⟩⟩
            case rest =>
              clear HC11
              try clear c1
              try clear p1
              try clear q1
              try clear hx1
              try clear qi1
              try clear p2
              try clear c3
              try clear c5
              try clear c5b0
              try clear c5b1
              try clear c6
              try clear c6b0
              try clear c6b1
              try clear p6
              try clear c7
              try clear c7b0
              try clear c7b1
              try clear c8
              try clear c8b0
              try clear c8b1
              try clear c14
              try clear p15
              try clear q15
              try clear hx15
              try clear qi15
              try clear p16
              try clear q16
              try clear hx16
              try clear qi16
              try clear c17
              try clear c17b0
              try clear c17b1
              try clear c19
              try clear c19b0
              try clear c19b1
              try clear hx158_0
              try clear hx159_0
              try clear hx160_0
              try clear p158
              try clear p159
              try clear p160
              try clear q158
              try clear q159
              try clear q160
              obtain ⟨kq, x59_10, rfl, HA, HJ10, HO_7, HO_8, HB⟩ := hcut
              cases kq with
              | zero => exact absurd HA.out (by simp [laws_FnHops.j0])
              | succ kj10 =>
                have H := HA.out
                clear HA
                simp only [laws_FnHops.j0] at H
                by_cases c27 : x59_10 = true
                · subst c27
                  have H1 : (some false) = some r := by rw [if_pos rfl] at H; exact H
                  clear H
                  have H := H1
                  clear H1
                  obtain rfl := Option.some.inj H
                  go_wp2
                  repeat (go_quiet (fail); try go_wp2)
                  go_ret
                  exact ⟨by first | rfl | (simp [errW_none, errW_some] <;> rfl) | (simp [*, errW_none, errW_some] <;> rfl), by repeat (first | (with_reducible first | exact HB.out | apply below_alloc | apply pw_below_drewN | apply below_drew1) | exact HB.out)⟩
                · replace c27 := Bool.eq_false_iff.mpr c27
                  subst c27
                  have H1 : (laws_FnHops.l0 kj10 (wrap64 (2 + (Int.tmod (rd t155 0) 11))) (Int.tmod (rd t155 1) (wrap64 (2 + (Int.tmod (rd t155 0) 11)))) t161 t164 0) = some r := by rw [if_neg (show ¬ (false = true) by decide)] at H; exact H
                  clear H
                  have H := H1
                  clear H1
                  have H' := Aside0.mk H
                  clear H
                  go_wp2
                  repeat (go_quiet (fail); try go_wp2)
                  go_loopg [9] kj10 (fun kq v9 w' => ∃ (x9_2 : Int), v9 = .int .i64 x9_2 ∧ Aside0 (laws_FnHops.l0 kq (wrap64 (2 + (Int.tmod (rd t155 0) 11))) (Int.tmod (rd t155 1) (wrap64 (2 + (Int.tmod (rd t155 0) 11)))) t161 t164 x9_2 = some r) ∧ Aside0 (kq ≤ kj10) ∧ Aside0 (Kd.R k70 70 w' w.heap.size (fun k_ => some k_ ≠ (v165 : Value).ownBlock) v162 t161) ∧ Aside0 (Kd.R k70 70 w' w.heap.size (fun k_ => some k_ ≠ (v162 : Value).ownBlock) v165 t164) ∧ Aside0 (Below w.heap.size w w'))
                  case atStart => exact ⟨(0), (by first | rfl | (simp; done) | (simp [*]; done)), H', ⟨Nat.le_refl _⟩, ⟨by (with_reducible repeat (first | apply Kd.R_alloc | apply Kd.R_drewN | apply Kd.R_drew)); exact HO_7.out⟩, ⟨by (with_reducible repeat (first | apply Kd.R_alloc | apply Kd.R_drewN | apply Kd.R_drew)); exact HO_8.out⟩, ⟨by repeat (first | (with_reducible first | exact HB.out | apply below_alloc | apply pw_below_drewN | apply below_drew1) | exact HB.out)⟩⟩
                  case round =>
                    clear H'
                    try clear c1
                    try clear p1
                    try clear q1
                    try clear hx1
                    try clear qi1
                    try clear c2
                    try clear p2
                    try clear c3
                    try clear c5
                    try clear c5b0
                    try clear c5b1
                    try clear c6
                    try clear c6b0
                    try clear c6b1
                    try clear p6
                    try clear c7
                    try clear c7b0
                    try clear c7b1
                    try clear c8
                    try clear c8b0
                    try clear c8b1
                    try clear c14
                    try clear p15
                    try clear q15
                    try clear hx15
                    try clear qi15
                    try clear p16
                    try clear q16
                    try clear hx16
                    try clear qi16
                    try clear c17
                    try clear c17b0
                    try clear c17b1
                    try clear c19
                    try clear c19b0
                    try clear c19b1
                    try clear c27
                    try clear hx158_0
                    try clear hx159_0
                    try clear hx160_0
                    try clear p1
                    try clear p15
                    try clear p158
                    try clear p159
                    try clear p16
                    try clear p160
                    try clear p2
                    try clear p6
                    try clear q1
                    try clear q15
                    try clear q158
                    try clear q159
                    try clear q16
                    try clear q160
                    obtain ⟨x9_2, rfl, HA, HK2, HO_7, HO_8, HB⟩ := hrel
                    cases gk with
                    | zero => exact absurd HA.out (by simp [laws_FnHops.l0])
                    | succ k2 =>
                      have H := HA.out
                      clear HA
                      simp only [laws_FnHops.l0] at H
                      by_cases c28 : x9_2 < (t161.length : Int)
                      · rw [if_pos c28] at H
                        have c28b0 : decide (x9_2 < (t161.length : Int)) = true := decide_eq_true c28
                        clear c28
                        have HC29 := Aside0.mk H
                        clear H
                        obtain ⟨Ao30, co30, eo30⟩ := Kd.R_slice HO_7.out
                        subst eo30
                        go_upto_region 14 with (fail)
                        repeat (go_quiet (fail); go_upto_region 14 with (fail))
                        go_cut [97] (fun v97 wc => ∃ (kq : Nat) (x97_28 : Bool), v97 = .bool x97_28 ∧ Aside0 (laws_FnHops.j2 kq (wrap64 (2 + (Int.tmod (rd t155 0) 11))) (Int.tmod (rd t155 1) (wrap64 (2 + (Int.tmod (rd t155 0) 11)))) t161 t164 x9_2 x97_28 = some r) ∧ Aside0 (kq ≤ k2) ∧ Aside0 (Kd.R k70 70 wc w.heap.size (fun k_ => some k_ ≠ (v165 : Value).ownBlock) (.slice Ao30 t161.length co30) t161) ∧ Aside0 (Kd.R k70 70 wc w.heap.size (fun k_ => some k_ ≠ ((.slice Ao30 t161.length co30) : Value).ownBlock) v165 t164) ∧ Aside0 (Below w.heap.size w wc))
                        case first =>
                          have H := HC29.out
                          clear HC29
                          by_cases c31 : 0 ≤ x9_2
                          · rw [if_pos c31] at H
                            have c31b0 : decide (0 ≤ x9_2) = true := decide_eq_true c31
                            clear c31
                            (first | rw [c31b0] | (simp only [i64_w, i32_w]; rw [c31b0]) | skip)
                            by_cases c32 : (wrap64 (2 + (Int.tmod (rd t155 0) 11))) = 0
                            · rw [if_pos c32] at H
                              exact absurd H (by simp)
                            · rw [if_neg c32] at H
                              have c32b0 : ((wrap64 (2 + (Int.tmod (rd t155 0) 11))) == 0) = false := beq_eq_false_iff_ne.mpr c32
                              have c32b1 : ((wrap64 (2 + (Int.tmod (rd t155 0) 11))) != 0) = true := bne_iff_ne.mpr c32
                              by_cases c33 : ((rd_T70 t161 x9_2).f0) = (Int.tmod (wrap64 ((Int.tmod (rd t155 1) (wrap64 (2 + (Int.tmod (rd t155 0) 11)))) + x9_2)) (wrap64 (2 + (Int.tmod (rd t155 0) 11))))
                              · rw [if_pos c33] at H
                                have c33b0 : (((rd_T70 t161 x9_2).f0) == (Int.tmod (wrap64 ((Int.tmod (rd t155 1) (wrap64 (2 + (Int.tmod (rd t155 0) 11)))) + x9_2)) (wrap64 (2 + (Int.tmod (rd t155 0) 11))))) = true := beq_iff_eq.mpr c33
                                have c33b1 : (((rd_T70 t161 x9_2).f0) != (Int.tmod (wrap64 ((Int.tmod (rd t155 1) (wrap64 (2 + (Int.tmod (rd t155 0) 11)))) + x9_2)) (wrap64 (2 + (Int.tmod (rd t155 0) 11))))) = false := bne_eq_false_iff_eq.mpr c33
                                clear c33
                                by_cases c34 : x9_2 < (t164.length : Int)
                                · rw [if_pos c34] at H
                                  have c34b0 : decide (x9_2 < (t164.length : Int)) = true := decide_eq_true c34
                                  clear c34
                                  by_cases c35 : ((rd_T70 t164 x9_2).f0) = ((rd_T70 t161 x9_2).f0)
                                  · rw [if_pos c35] at H
                                    have c35b0 : (((rd_T70 t164 x9_2).f0) == ((rd_T70 t161 x9_2).f0)) = true := beq_iff_eq.mpr c35
                                    have c35b1 : (((rd_T70 t164 x9_2).f0) != ((rd_T70 t161 x9_2).f0)) = false := bne_eq_false_iff_eq.mpr c35
                                    clear c35
                                    have H' := Aside0.mk H
                                    clear H
                                    have p169 : 0 ≤ (x9_2 : Int) := of_decide_eq_true (by first | (with_reducible assumption) | assumption)
                                    have q169 : x9_2 < (t161.length : Int) := of_decide_eq_true (by first | (with_reducible assumption) | assumption)
                                    obtain ⟨ad169, e169, hx169_0, hx169_1⟩ := at_T70 (Kd.R_reads' HO_7.out).2.2 x9_2 p169 q169
                                    cases e169
                                    replace p169 := eq_true p169
                                    replace q169 := eq_true q169
                                    obtain ⟨Ao36, co36, eo36⟩ := Kd.R_slice HO_8.out
                                    subst eo36
                                    have p170 : 0 ≤ (x9_2 : Int) := of_decide_eq_true (by first | (with_reducible assumption) | assumption)
                                    have q170 : x9_2 < (t164.length : Int) := of_decide_eq_true (by first | (with_reducible assumption) | assumption)
                                    obtain ⟨ad170, e170, hx170_0, hx170_1⟩ := at_T70 (Kd.R_reads' HO_8.out).2.2 x9_2 p170 q170
                                    cases e170
                                    replace p170 := eq_true p170
                                    replace q170 := eq_true q170
                                    have p171 : 0 ≤ (x9_2 : Int) := of_decide_eq_true (by first | (with_reducible assumption) | assumption)
                                    have q171 : x9_2 < (t161.length : Int) := of_decide_eq_true (by first | (with_reducible assumption) | assumption)
                                    obtain ⟨ad171, e171, hx171_0, hx171_1⟩ := at_T70 (Kd.R_reads' HO_7.out).2.2 x9_2 p171 q171
                                    obtain rfl : ad169 = ad171 := (by injection e171)
                                    replace p171 := eq_true p171
                                    replace q171 := eq_true q171
                                    have p172 : 0 ≤ (x9_2 : Int) := of_decide_eq_true (by first | (with_reducible assumption) | assumption)
                                    have q172 : x9_2 < (t164.length : Int) := of_decide_eq_true (by first | (with_reducible assumption) | assumption)
                                    obtain ⟨ad172, e172, hx172_0, hx172_1⟩ := at_T70 (Kd.R_reads' HO_8.out).2.2 x9_2 p172 q172
                                    obtain rfl : ad170 = ad172 := (by injection e172)
                                    replace p172 := eq_true p172
                                    replace q172 := eq_true q172
                                    go_wp2
                                    repeat (go_quiet (fail); try go_wp2)
                                    go_meet
                                    case rel => exact ⟨_, ((((rd_T70 t164 x9_2).f1) != 0)), (by first | rfl | (simp; done) | (simp [*]; done)), H', ⟨by have := HJ10.out; have := HK2.out; first | omega | exact Nat.le_refl _⟩, ⟨by (with_reducible repeat (first | apply Kd.R_alloc | apply Kd.R_drewN | apply Kd.R_drew)); exact HO_7.out⟩, ⟨by (with_reducible repeat (first | apply Kd.R_alloc | apply Kd.R_drewN | apply Kd.R_drew)); exact HO_8.out⟩, ⟨by repeat (first | (with_reducible first | exact HB.out | apply below_alloc | apply pw_below_drewN | apply below_drew1) | exact HB.out)⟩⟩
                                  · rw [if_neg c35] at H
                                    have c35b0 : (((rd_T70 t164 x9_2).f0) == ((rd_T70 t161 x9_2).f0)) = false := beq_eq_false_iff_ne.mpr c35
                                    have c35b1 : (((rd_T70 t164 x9_2).f0) != ((rd_T70 t161 x9_2).f0)) = true := bne_iff_ne.mpr c35
                                    have H' := Aside0.mk H
                                    clear H
                                    have p169 : 0 ≤ (x9_2 : Int) := of_decide_eq_true (by first | (with_reducible assumption) | assumption)
                                    have q169 : x9_2 < (t161.length : Int) := of_decide_eq_true (by first | (with_reducible assumption) | assumption)
                                    obtain ⟨ad169, e169, hx169_0, hx169_1⟩ := at_T70 (Kd.R_reads' HO_7.out).2.2 x9_2 p169 q169
                                    cases e169
                                    replace p169 := eq_true p169
                                    replace q169 := eq_true q169
                                    obtain ⟨Ao37, co37, eo37⟩ := Kd.R_slice HO_8.out
                                    subst eo37
                                    have p170 : 0 ≤ (x9_2 : Int) := of_decide_eq_true (by first | (with_reducible assumption) | assumption)
                                    have q170 : x9_2 < (t164.length : Int) := of_decide_eq_true (by first | (with_reducible assumption) | assumption)
                                    obtain ⟨ad170, e170, hx170_0, hx170_1⟩ := at_T70 (Kd.R_reads' HO_8.out).2.2 x9_2 p170 q170
                                    cases e170
                                    replace p170 := eq_true p170
                                    replace q170 := eq_true q170
                                    have p171 : 0 ≤ (x9_2 : Int) := of_decide_eq_true (by first | (with_reducible assumption) | assumption)
                                    have q171 : x9_2 < (t161.length : Int) := of_decide_eq_true (by first | (with_reducible assumption) | assumption)
                                    obtain ⟨ad171, e171, hx171_0, hx171_1⟩ := at_T70 (Kd.R_reads' HO_7.out).2.2 x9_2 p171 q171
                                    obtain rfl : ad169 = ad171 := (by injection e171)
                                    replace p171 := eq_true p171
                                    replace q171 := eq_true q171
                                    go_wp2
                                    repeat (go_quiet (fail); try go_wp2)
                                    go_meet
                                    case rel => exact ⟨_, (true), (by first | rfl | (simp; done) | (simp [*]; done)), H', ⟨by have := HJ10.out; have := HK2.out; first | omega | exact Nat.le_refl _⟩, ⟨by (with_reducible repeat (first | apply Kd.R_alloc | apply Kd.R_drewN | apply Kd.R_drew)); exact HO_7.out⟩, ⟨by (with_reducible repeat (first | apply Kd.R_alloc | apply Kd.R_drewN | apply Kd.R_drew)); exact HO_8.out⟩, ⟨by repeat (first | (with_reducible first | exact HB.out | apply below_alloc | apply pw_below_drewN | apply below_drew1) | exact HB.out)⟩⟩
                                · rw [if_neg c34] at H
                                  exact absurd H (by simp)
                              · rw [if_neg c33] at H
                                have c33b0 : (((rd_T70 t161 x9_2).f0) == (Int.tmod (wrap64 ((Int.tmod (rd t155 1) (wrap64 (2 + (Int.tmod (rd t155 0) 11)))) + x9_2)) (wrap64 (2 + (Int.tmod (rd t155 0) 11))))) = false := beq_eq_false_iff_ne.mpr c33
                                have c33b1 : (((rd_T70 t161 x9_2).f0) != (Int.tmod (wrap64 ((Int.tmod (rd t155 1) (wrap64 (2 + (Int.tmod (rd t155 0) 11)))) + x9_2)) (wrap64 (2 + (Int.tmod (rd t155 0) 11))))) = true := bne_iff_ne.mpr c33
                                have H' := Aside0.mk H
                                clear H
                                have p169 : 0 ≤ (x9_2 : Int) := of_decide_eq_true (by first | (with_reducible assumption) | assumption)
                                have q169 : x9_2 < (t161.length : Int) := of_decide_eq_true (by first | (with_reducible assumption) | assumption)
                                obtain ⟨ad169, e169, hx169_0, hx169_1⟩ := at_T70 (Kd.R_reads' HO_7.out).2.2 x9_2 p169 q169
                                cases e169
                                replace p169 := eq_true p169
                                replace q169 := eq_true q169
                                go_wp2
                                repeat (go_quiet (fail); try go_wp2)
                                go_meet
                                case rel => exact ⟨_, (true), (by first | rfl | (simp; done) | (simp [*]; done)), H', ⟨by have := HJ10.out; have := HK2.out; first | omega | exact Nat.le_refl _⟩, ⟨by (with_reducible repeat (first | apply Kd.R_alloc | apply Kd.R_drewN | apply Kd.R_drew)); exact HO_7.out⟩, ⟨by (with_reducible repeat (first | apply Kd.R_alloc | apply Kd.R_drewN | apply Kd.R_drew)); exact HO_8.out⟩, ⟨by repeat (first | (with_reducible first | exact HB.out | apply below_alloc | apply pw_below_drewN | apply below_drew1) | exact HB.out)⟩⟩
                          · rw [if_neg c31] at H
                            exact absurd H (by simp)
                        case rest =>
                          clear HC29
                          try clear c1
                          try clear p1
                          try clear q1
                          try clear hx1
                          try clear qi1
                          try clear c2
                          try clear p2
                          try clear c3
                          try clear c5
                          try clear c5b0
                          try clear c5b1
                          try clear c6
                          try clear c6b0
                          try clear c6b1
                          try clear p6
                          try clear c7
                          try clear c7b0
                          try clear c7b1
                          try clear c8
                          try clear c8b0
                          try clear c8b1
                          try clear c14
                          try clear p15
                          try clear q15
                          try clear hx15
                          try clear qi15
                          try clear p16
                          try clear q16
                          try clear hx16
                          try clear qi16
                          try clear c17
                          try clear c17b0
                          try clear c17b1
                          try clear p17
                          try clear q17
                          try clear hx17
                          try clear c19
                          try clear c19b0
                          try clear c19b1
                          try clear c27
                          try clear c28
                          try clear c28b0
                          try clear c31
                          try clear c31b0
                          try clear c32
                          try clear c32b0
                          try clear c32b1
                          try clear c33
                          try clear c33b0
                          try clear c33b1
                          try clear c34
                          try clear c34b0
                          try clear c35
                          try clear c35b0
                          try clear c35b1
                          try clear hx158_0
                          try clear hx159_0
                          try clear hx160_0
                          try clear hx169_0
                          try clear hx169_1
                          try clear hx170_0
                          try clear hx170_1
                          try clear hx171_0
                          try clear hx171_1
                          try clear hx172_0
                          try clear hx172_1
                          try clear p1
                          try clear p15
                          try clear p158
                          try clear p159
                          try clear p16
                          try clear p160
                          try clear p169
                          try clear p170
                          try clear p171
                          try clear p172
                          try clear p2
                          try clear p6
                          try clear q1
                          try clear q15
                          try clear q158
                          try clear q159
                          try clear q16
                          try clear q160
                          try clear q169
                          try clear q170
                          try clear q171
                          try clear q172
                          obtain ⟨kq, x97_28, rfl, HA, HJ28, HO_7, HO_8, HB⟩ := hcut
                          cases kq with
                          | zero => exact absurd HA.out (by simp [laws_FnHops.j2])
                          | succ kj28 =>
                            have H := HA.out
                            clear HA
                            simp only [laws_FnHops.j2] at H
                            by_cases c38 : x97_28 = true
                            · subst c38
                              have H1 : (some false) = some r := by rw [if_pos rfl] at H; exact H
                              clear H
                              have H := H1
                              clear H1
                              obtain rfl := Option.some.inj H
                              go_wp2
                              repeat (go_quiet (fail); try go_wp2)
                              go_ret
                              exact ⟨by first | rfl | (simp [errW_none, errW_some] <;> rfl) | (simp [*, errW_none, errW_some] <;> rfl), by repeat (first | (with_reducible first | exact HB.out | apply below_alloc | apply pw_below_drewN | apply below_drew1) | exact HB.out)⟩
                            · replace c38 := Bool.eq_false_iff.mpr c38
                              subst c38
                              have H1 : (if 0 ≤ x9_2 then (if x9_2 < (t161.length : Int) then (if ((((rd_T70 t161 x9_2).f1) == 1) != (decide ((wrap64 ((Int.tmod (rd t155 1) (wrap64 (2 + (Int.tmod (rd t155 0) 11)))) + x9_2)) ≥ (wrap64 (2 + (Int.tmod (rd t155 0) 11)))))) = true then (some false) else (laws_FnHops.l0 kj28 (wrap64 (2 + (Int.tmod (rd t155 0) 11))) (Int.tmod (rd t155 1) (wrap64 (2 + (Int.tmod (rd t155 0) 11)))) t161 t164 (wrap64 (x9_2 + 1)))) else (none)) else (none)) = some r := by rw [if_neg (show ¬ (false = true) by decide)] at H; exact H
                              clear H
                              have H := H1
                              clear H1
                              by_cases c39 : 0 ≤ x9_2
                              · rw [if_pos c39] at H
                                have c39b0 : decide (0 ≤ x9_2) = true := decide_eq_true c39
                                clear c39
                                by_cases c40 : x9_2 < (t161.length : Int)
                                · rw [if_pos c40] at H
                                  have c40b0 : decide (x9_2 < (t161.length : Int)) = true := decide_eq_true c40
                                  clear c40
                                  by_cases c41 : ((((rd_T70 t161 x9_2).f1) == 1) != (decide ((wrap64 ((Int.tmod (rd t155 1) (wrap64 (2 + (Int.tmod (rd t155 0) 11)))) + x9_2)) ≥ (wrap64 (2 + (Int.tmod (rd t155 0) 11)))))) = true
                                  · rw [if_pos c41] at H
                                    have c41b0 : ((((rd_T70 t161 x9_2).f1) == 1) != (decide ((wrap64 ((Int.tmod (rd t155 1) (wrap64 (2 + (Int.tmod (rd t155 0) 11)))) + x9_2)) ≥ (wrap64 (2 + (Int.tmod (rd t155 0) 11)))))) = true := c41
                                    (try (have c41b1 : decide ((((rd_T70 t161 x9_2).f1) == 1) = (decide ((wrap64 ((Int.tmod (rd t155 1) (wrap64 (2 + (Int.tmod (rd t155 0) 11)))) + x9_2)) ≥ (wrap64 (2 + (Int.tmod (rd t155 0) 11)))))) = false := by simpa using c41))
                                    (try (have c41b2 : ((((rd_T70 t161 x9_2).f1) == 1) == (decide ((wrap64 ((Int.tmod (rd t155 1) (wrap64 (2 + (Int.tmod (rd t155 0) 11)))) + x9_2)) ≥ (wrap64 (2 + (Int.tmod (rd t155 0) 11)))))) = false := by simpa using c41))
                                    (try (have c41b3 : ¬ ((((rd_T70 t161 x9_2).f1) == 1) = (decide ((wrap64 ((Int.tmod (rd t155 1) (wrap64 (2 + (Int.tmod (rd t155 0) 11)))) + x9_2)) ≥ (wrap64 (2 + (Int.tmod (rd t155 0) 11)))))) := by simpa using c41))
                                    clear c41
                                    obtain rfl := Option.some.inj H
                                    have p173 : 0 ≤ (x9_2 : Int) := of_decide_eq_true (by first | (with_reducible assumption) | assumption)
                                    have q173 : x9_2 < (t161.length : Int) := of_decide_eq_true (by first | (with_reducible assumption) | assumption)
                                    obtain ⟨ad173, e173, hx173_0, hx173_1⟩ := at_T70 (Kd.R_reads' HO_7.out).2.2 x9_2 p173 q173
                                    cases e173
                                    replace p173 := eq_true p173
                                    replace q173 := eq_true q173
                                    go_wp2
                                    repeat (go_quiet (fail); try go_wp2)
                                    go_ret
                                    exact ⟨by first | rfl | (simp [errW_none, errW_some] <;> rfl) | (simp [*, errW_none, errW_some] <;> rfl), by repeat (first | (with_reducible first | exact HB.out | apply below_alloc | apply pw_below_drewN | apply below_drew1) | exact HB.out)⟩
                                  · rw [if_neg c41] at H
                                    have c41b0 : ((((rd_T70 t161 x9_2).f1) == 1) != (decide ((wrap64 ((Int.tmod (rd t155 1) (wrap64 (2 + (Int.tmod (rd t155 0) 11)))) + x9_2)) ≥ (wrap64 (2 + (Int.tmod (rd t155 0) 11)))))) = false := by simpa using c41
                                    (try (have c41b1 : decide ((((rd_T70 t161 x9_2).f1) == 1) = (decide ((wrap64 ((Int.tmod (rd t155 1) (wrap64 (2 + (Int.tmod (rd t155 0) 11)))) + x9_2)) ≥ (wrap64 (2 + (Int.tmod (rd t155 0) 11)))))) = true := by simpa using c41))
                                    (try (have c41b2 : ((((rd_T70 t161 x9_2).f1) == 1) == (decide ((wrap64 ((Int.tmod (rd t155 1) (wrap64 (2 + (Int.tmod (rd t155 0) 11)))) + x9_2)) ≥ (wrap64 (2 + (Int.tmod (rd t155 0) 11)))))) = true := by simpa using c41))
                                    clear c41
                                    have H' := Aside0.mk H
                                    clear H
                                    have p173 : 0 ≤ (x9_2 : Int) := of_decide_eq_true (by first | (with_reducible assumption) | assumption)
                                    have q173 : x9_2 < (t161.length : Int) := of_decide_eq_true (by first | (with_reducible assumption) | assumption)
                                    obtain ⟨ad173, e173, hx173_0, hx173_1⟩ := at_T70 (Kd.R_reads' HO_7.out).2.2 x9_2 p173 q173
                                    cases e173
                                    replace p173 := eq_true p173
                                    replace q173 := eq_true q173
                                    go_wp2
                                    repeat (go_quiet (fail); try go_wp2)
                                    go_roundg kj28
                                    case measure => have := HJ10.out; have := HK2.out; have := HJ28.out; omega
                                    case rel => exact ⟨(wrap64 (x9_2 + 1)), (by first | rfl | (simp; done) | (simp [*]; done)), H', ⟨by have := HJ10.out; have := HK2.out; have := HJ28.out; omega⟩, ⟨by (with_reducible repeat (first | apply Kd.R_alloc | apply Kd.R_drewN | apply Kd.R_drew)); exact HO_7.out⟩, ⟨by (with_reducible repeat (first | apply Kd.R_alloc | apply Kd.R_drewN | apply Kd.R_drew)); exact HO_8.out⟩, ⟨by repeat (first | (with_reducible first | exact HB.out | apply below_alloc | apply pw_below_drewN | apply below_drew1) | exact HB.out)⟩⟩
                                · rw [if_neg c40] at H
                                  exact absurd H (by simp)
                              · rw [if_neg c39] at H
                                exact absurd H (by simp)
                      · rw [if_neg c28] at H
                        have c28b0 : decide (x9_2 < (t161.length : Int)) = false := decide_eq_false c28
                        clear c28
                        obtain rfl := Option.some.inj H
                        obtain ⟨Ao42, co42, eo42⟩ := Kd.R_slice HO_7.out
                        subst eo42
                        go_wp2
                        repeat (go_quiet (fail); try go_wp2)
                        go_ret
                        exact ⟨by first | rfl | (simp [errW_none, errW_some] <;> rfl) | (simp [*, errW_none, errW_some] <;> rfl), by repeat (first | (with_reducible first | exact HB.out | apply below_alloc | apply pw_below_drewN | apply below_drew1) | exact HB.out)⟩
          · rw [if_neg c8] at H
            exact absurd H (by simp)
      · rw [if_neg c6] at H
        exact absurd H (by simp)
    · rw [if_neg c5] at H
      exact absurd H (by simp)

/-- THE ONE PURE STATEMENT of laws_FnHops: yours. -/
def laws_FnHops.Pure : Prop := ∀ (l0 : List Int), l0.length ≤ maxLen → l0.length * 1 ≤ 140737488351232 → (∀ x ∈ l0, (Lit.int .u8 x).wf = true) → ∃ k, laws_FnHops.f k l0 = some true
theorem laws_FnHops.walk (P : laws_FnHops.Pure) (a0 : Option Addr) (len0 cap0 : Nat) (z0 : List Int) (w : World) (w0 : (a0 = none ∧ len0 = 0 ∧ cap0 = 0 ∧ z0 = []) ∨ ∃ x, a0 = some x ∧ len0 ≤ cap0 ∧ cap0 ≤ maxLen ∧ z0.length = cap0 ∧ (∀ i, i < z0.length → w.cell? (x.add i) = some (.int .u8 (z0.getD i 0))) ∧ ∀ n ∈ z0, (Lit.int .u8 n).wf = true) (y0 : len0 * 1 ≤ 140737488351232) :
    Calls Try.prog 14 #[.slice a0 len0 cap0] w fun e w' => e = .returned (.bool true) ∧ Below w.heap.size w w' := by
  obtain ⟨l0, rfl, hr0, hm0, hw0, hc0⟩ := ReadsInt.ofRowC w0
  obtain ⟨k, h⟩ := P l0 hm0 y0 hw0
  refine (laws_FnHops.calls k _ _ l0 true w (Kd.C_of_reads (d := (0 : Int)) (h1 := fun _ => rfl) hr0) hc0 h).mono ?_
  rintro e w' ⟨rfl, hd⟩
  exact ⟨rfl, hd⟩

end Go.Proofs.Ytffkmajlelhiaaa.PFnHops
