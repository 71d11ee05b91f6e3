/- Each function that the law comes to, as a plain function, with the proof that the call in the model gives what that function says (written by a program of this session out of the translation). No condition. -/
import Derived.Test.YtimdefbpoddoaaaPFnExactRingIsSafex0
namespace Go.Proofs.Ytimdefbpoddoaaa.PFnExactRingIsSafe
open Go.RowKit Go.Proofs.YtimdefbpoddoaaaW.PrintWords Go.Proofs.YtimdefbpoddoaaaW.PrintLast Go.Proofs.YtimdefbpoddoaaaW.PrintMore
attribute [local go_sem] max2_int min2_int max_two min_two max_three min_three max_four min_four   -- for this text's walks alone
set_option linter.unusedVariables false
set_option linter.unusedSimpArgs false

/-! ### spec_SuccessorsOf: function 114 -/
def spec_SuccessorsOf.l0 : Nat → List (S94) → Int → List Int → Int → Option (List Int)
 | 0, _, _, _, _ => none
 | k + 1, x0, x1, x5, x6 => if x6 < (x0.length : Int) then (if 0 ≤ x6 then (if ((rd_T94 x0 x6).f0) = x1 then (if x5.length < 17592186044416 then (spec_SuccessorsOf.l0 k x0 x1 (x5 ++ [(rd_T94 x0 x6).f1]) (wrap64 (x6 + 1))) else (none)) else (spec_SuccessorsOf.l0 k x0 x1 x5 (wrap64 (x6 + 1)))) else (none)) else (some x5)
def spec_SuccessorsOf.f (k : Nat) (l0 : List (S94)) (a1 : Int) : Option (List Int) := spec_SuccessorsOf.l0 k l0 a1 (([] : List Int)) 0
theorem spec_SuccessorsOf.mono_l : ∀ k, (∀ y0 y1 y2 y3, LeO (spec_SuccessorsOf.l0 k y0 y1 y2 y3) (spec_SuccessorsOf.l0 (k + 1) y0 y1 y2 y3))
 | 0 => fun _ _ _ _ r h => by simp [spec_SuccessorsOf.l0] at h
 | k + 1 => by
  have ih0 := spec_SuccessorsOf.mono_l k
  ·intro y0 y1 y2 y3
   unfold spec_SuccessorsOf.l0
   repeat' first
   | (with_reducible exact ih0 _ _ _ _)
   | (with_reducible exact LeO.refl _)
   | (with_reducible exact LeO.none _)
   | (with_reducible refine LeO.ite ?_ ?_)
   | (with_reducible refine LeO.bind ?_ (fun _ => ?_))
   | exact ih0 _ _ _ _
   | exact LeO.none _
   | refine LeO.ite ?_ ?_
   | refine LeO.bind ?_ (fun _ => ?_)
theorem spec_SuccessorsOf.mono : ∀ a0 a1 k, LeO (spec_SuccessorsOf.f k a0 a1) (spec_SuccessorsOf.f (k + 1) a0 a1) := by
 intro a0 a1 k
 have ih0 := spec_SuccessorsOf.mono_l k
 unfold spec_SuccessorsOf.f
 repeat' first
   | (with_reducible exact ih0 _ _ _ _)
   | (with_reducible exact LeO.refl _)
   | (with_reducible exact LeO.none _)
   | (with_reducible refine LeO.ite ?_ ?_)
   | (with_reducible refine LeO.bind ?_ (fun _ => ?_))
   | exact ih0 _ _ _ _
   | exact LeO.none _
   | refine LeO.ite ?_ ?_
   | refine LeO.bind ?_ (fun _ => ?_)
set_option maxHeartbeats 8000000 in
set_option maxRecDepth 100000 in
theorem spec_SuccessorsOf.calls (k : Nat) (A0 : Option Addr) (c0 : Nat) (l0 : List (S94)) (a1 : Int) (r : List Int) (w : World) (hr0 : Kd.C k94 w A0 l0.length l0) (hc0 : l0.length ≤ c0) (h : spec_SuccessorsOf.f k l0 a1 = some r) :
  Calls Try.prog 114 #[.slice A0 l0.length c0, .int .i64 a1] w fun e w' => ∃ v0_ : Value, e = .returned (v0_) ∧ Kd.R (Kd.int .i64) 3 w' w.heap.size (fun _ => True) v0_ r ∧ Below w.heap.size w w' := by
 have HR0 := Aside0.mk hr0
 have HC0 := Aside0.mk hc0
 clear hr0 hc0
 have HB := Aside0.mk (Below.refl w.heap.size w)
 have H : (spec_SuccessorsOf.l0 k l0 a1 (([] : List Int)) 0) = some r := h
 clear h
 obtain ⟨y178, hy178⟩ : ∃ y_ : List Int, y_ = (([] : List Int)) := ⟨_, rfl⟩
 replace H : (spec_SuccessorsOf.l0 k l0 a1 y178 0) = some r := by first | (rw [hy178]; with_reducible exact H) | (have H2_ := (Option.bind_some _ _).symm.trans H; rw [hy178]; with_reducible exact H2_) | (have H2_ := (Option.bind_some _ _).symm.trans H; with_reducible exact H2_) | with_reducible exact H | (rw [hy178]; exact H) | exact H
 have Ny178 := Aside0.mk hy178
 clear hy178
 have H' := Aside0.mk H
 clear H
 go_enter Try.func114, Try.ntmps114
 go_wp2_with (first | ((with_reducible refine gate_dst (N := 7) rfl ?_); refine Kd.R_lit (Kd.int .i64) _ 3 ?hg (N := 7) ?hd (xs := ([] : List Int)) (inner := []) (ok := fun _ => True) (okp := fun _ => True) ?hr ?hp (fun _ hk => hk) trivial (Below.refl _ _) (Nat.le_refl _) (by simp) ?_; (case hd => rfl); (case hg => rfl); (case hr => first | (go_simp; done) | (go_simp; rfl)); (case hp => exact (Reps.none _ _)); intro v179 w3 ho4 hb hg_ hnew_; clear hg_ hnew_; (first | rw [← Ny178.out] at ho4 | (simp only [Int.reduceToNat] at ho4; rw [← Ny178.out] at ho4)); have HO180 := Aside0.mk (Kd.R_lower ho4 (bz_ HB.out)); replace HB := Aside0.mk (bs_ HB.out hb); clear hb ho4))
 go_loopg [5, 6] k (fun kq v5 v6 w' => ∃ (x5_1 : List Int) (x6_1 : Int), v6 = .int .i64 x6_1 ∧ Aside0 (spec_SuccessorsOf.l0 kq l0 a1 x5_1 x6_1 = some r) ∧ Aside0 (kq ≤ k) ∧ Aside0 (Kd.R (Kd.int .i64) 3 w' w.heap.size (fun _ => True) v5 x5_1) ∧ Aside0 (Below w.heap.size w w'))
 case atStart => exact ⟨(y178), (0), ef_, H', ⟨Nat.le_refl _⟩, ⟨by (with_reducible repeat (first | apply Kd.R_alloc | apply Kd.R_drewN | apply Kd.R_drew)); exact HO180.out⟩, ⟨bb_ HB.out⟩⟩
 case round =>
  clear H'
  obtain ⟨x5_1, x6_1, rfl, HA, HK1, HO_5, HB⟩ := hrel
  cases gk with
  | zero => exact absurd HA.out (by simp [spec_SuccessorsOf.l0])
  | succ k1 =>
   have H := HA.out
   clear HA
   simp only [spec_SuccessorsOf.l0] at H
   by_cases c5 : x6_1 < (l0.length : Int)
   ·rw [if_pos c5] at H
    have c5b0 : decide (x6_1 < (l0.length : Int)) = true := decide_eq_true c5
    clear c5
    by_cases c6 : 0 ≤ x6_1
    ·rw [if_pos c6] at H
     have c6b0 : decide (0 ≤ x6_1) = true := decide_eq_true c6
     clear c6
     by_cases c7 : ((rd_T94 l0 x6_1).f0) = a1
     ·rw [if_pos c7] at H
      have c7b0 : (((rd_T94 l0 x6_1).f0) == a1) = true := beq_iff_eq.mpr c7
      have c7b1 : (((rd_T94 l0 x6_1).f0) != a1) = false := bne_eq_false_iff_eq.mpr c7
      clear c7
      by_cases c8 : x5_1.length < 17592186044416
      ·rw [if_pos c8] at H
       have LMc8 := Aside0.mk c8
       clear c8
       obtain ⟨y183, hy183⟩ : ∃ y_ : List Int, y_ = (x5_1 ++ [(rd_T94 l0 x6_1).f1]) := ⟨_, rfl⟩
       replace H : (spec_SuccessorsOf.l0 k1 l0 a1 y183 (wrap64 (x6_1 + 1))) = some r := by first | (rw [hy183]; with_reducible exact H) | (have H2_ := (Option.bind_some _ _).symm.trans H; rw [hy183]; with_reducible exact H2_) | (have H2_ := (Option.bind_some _ _).symm.trans H; with_reducible exact H2_) | with_reducible exact H | (rw [hy183]; exact H) | exact H
       have Ny183 := Aside0.mk hy183
       clear hy183
       have H' := Aside0.mk H
       clear H
       have p181 : 0 ≤ (x6_1 : Int) := of_decide_eq_true dg_
       have q181 : x6_1 < (l0.length : Int) := of_decide_eq_true dg_
       obtain ⟨ad181, e181, hx181_0, hx181_1⟩ := at_T94 HR0.out x6_1 p181 q181
       cases e181
       replace hx181_0 := (HB.out.cell (World.block_lt_of_cell? w _ hx181_0)).trans hx181_0
       replace hx181_1 := (HB.out.cell (World.block_lt_of_cell? w _ hx181_1)).trans hx181_1
       replace p181 := eq_true p181
       replace q181 := eq_true q181
       have p182 : 0 ≤ (x6_1 : Int) := of_decide_eq_true dg_
       have q182 : x6_1 < (l0.length : Int) := of_decide_eq_true dg_
       obtain ⟨ad182, e182, hx182_0, hx182_1⟩ := at_T94 HR0.out x6_1 p182 q182
       obtain rfl : ad181 = ad182 := (by injection e182)
       replace hx182_0 := (HB.out.cell (World.block_lt_of_cell? w _ hx182_0)).trans hx182_0
       replace hx182_1 := (HB.out.cell (World.block_lt_of_cell? w _ hx182_1)).trans hx182_1
       replace p182 := eq_true p182
       replace q182 := eq_true q182
       go_wp2_with (first | ((with_reducible refine gate_builtin (b := .append) (xs := #[.tmp 21, .tmp 27]) rfl ?_); at_builtin; refine Kd.R_append (Kd.int .i64) (w0 := w) w.heap.size rfl (.tmp 21) (.tmp 27) 29 3 (.int .i64 0) 8 rfl Try.underlying29 info3 rfl (by decide) (by omega) u5 x5_1 ((rd_T94 l0 x6_1).f1) [.int .i64 ((rd_T94 l0 x6_1).f1)] (fun _ => True) (fun _ => False) rfl rfl ?aP (fun _ hk => hk.elim) ?aF ?aO ?aB ?aS ?aL ?_; (case aP => exact rfl); (case aB => exact (by repeat (first | (with_reducible first | exact HB.out | apply below_alloc | apply pw_below_drewN | apply below_drew1) | exact HB.out))); (case aF => exact (fun _ _ => trivial)); (case aO => exact (ra_ HO_5.out)); (case aS => exact (bz_ HB.out)); (case aL => have := LMc8.out; omega); intro v184 w9 ho hb hg hat; rw [← Ny183.out] at ho; have n0_ := Aside0.mk (hb); have n1_ := Aside0.mk (ho); clear HB; clear HO_5; have HB := n0_; have HO185 := n1_; clear n0_ n1_; clear ho hb hg hat))
       go_roundg k1
       case measure => have := HK1.out; omega
       case rel => exact ⟨(y183), (wrap64 (x6_1 + 1)), ef_, H', ⟨by have := HK1.out; omega⟩, ⟨by (with_reducible repeat (first | apply Kd.R_alloc | apply Kd.R_drewN | apply Kd.R_drew)); exact HO185.out⟩, ⟨bb_ HB.out⟩⟩
      ·rw [if_neg c8] at H
       exact absurd H (by simp)
     ·rw [if_neg c7] at H
      have c7b0 : (((rd_T94 l0 x6_1).f0) == a1) = false := beq_eq_false_iff_ne.mpr c7
      have c7b1 : (((rd_T94 l0 x6_1).f0) != a1) = true := bne_iff_ne.mpr c7
      have H' := Aside0.mk H
      clear H
      have p181 : 0 ≤ (x6_1 : Int) := of_decide_eq_true dg_
      have q181 : x6_1 < (l0.length : Int) := of_decide_eq_true dg_
      obtain ⟨ad181, e181, hx181_0, hx181_1⟩ := at_T94 HR0.out x6_1 p181 q181
      cases e181
      replace hx181_0 := (HB.out.cell (World.block_lt_of_cell? w _ hx181_0)).trans hx181_0
      replace hx181_1 := (HB.out.cell (World.block_lt_of_cell? w _ hx181_1)).trans hx181_1
      replace p181 := eq_true p181
      replace q181 := eq_true q181
      go_wp2
      go_roundg k1
      case measure => have := HK1.out; omega
      case rel => exact ⟨(x5_1), (wrap64 (x6_1 + 1)), ef_, H', ⟨by have := HK1.out; omega⟩, ⟨by (with_reducible repeat (first | apply Kd.R_alloc | apply Kd.R_drewN | apply Kd.R_drew)); exact HO_5.out⟩, ⟨bb_ HB.out⟩⟩
    ·rw [if_neg c6] at H
     exact absurd H (by simp)
   ·rw [if_neg c5] at H
    have c5b0 : decide (x6_1 < (l0.length : Int)) = false := decide_eq_false c5
    clear c5
    obtain rfl := Option.some.inj H
    go_wp2
    go_ret
    exact ⟨_, fin_, by (with_reducible repeat (first | apply Kd.R_alloc | apply Kd.R_drewN | apply Kd.R_drew)); exact HO_5.out, bb_ HB.out⟩

/-! ### spec_l10Depths: function 115 -/
mutual
def spec_l10Depths.l0 : Nat → List (S94) → List Int → List Int → Int → Option (List Int)
 | 0, _, _, _, _ => none
 | k + 1, x0, x5, x6, x7 => if (x6.length : Int) > 0 then (spec_l10Depths.l1 k x0 x5 x6 x7 (([] : List Int)) 0) else (some x5)
def spec_l10Depths.l1 : Nat → List (S94) → List Int → List Int → Int → List Int → Int → Option (List Int)
 | 0, _, _, _, _, _, _ => none
 | k + 1, x0, x5, x6, x7, x8, x9 => if x9 < (x6.length : Int) then (if 0 ≤ x9 then ((spec_SuccessorsOf.f k x0 (rd x6 x9)).bind fun t196 => (spec_l10Depths.l2 k x0 x5 x6 x7 x8 x9 t196 0)) else (none)) else (spec_l10Depths.l0 k x0 x5 x8 (wrap64 (x7 + 1)))
def spec_l10Depths.l2 : Nat → List (S94) → List Int → List Int → Int → List Int → Int → List Int → Int → Option (List Int)
 | 0, _, _, _, _, _, _, _, _ => none
 | k + 1, x0, x5, x6, x7, x8, x9, x10, x11 => if x11 < (x10.length : Int) then (if 0 ≤ x11 then (if 0 ≤ (rd x10 x11) then (if (rd x10 x11) < (x5.length : Int) then (if (rd x5 (rd x10 x11)) = 0 then (if x8.length < 17592186044416 then (spec_l10Depths.l2 k x0 (x5.set ((rd x10 x11) : Int).toNat x7) x6 x7 (x8 ++ [rd x10 x11]) x9 x10 (wrap64 (x11 + 1))) else (none)) else (spec_l10Depths.l2 k x0 x5 x6 x7 x8 x9 x10 (wrap64 (x11 + 1)))) else (none)) else (none)) else (none)) else (spec_l10Depths.l1 k x0 x5 x6 x7 x8 (wrap64 (x9 + 1)))
end
def spec_l10Depths.f (k : Nat) (l0 : List (S94)) (a1 : Int) : Option (List Int) := if 128 ≤ 35184372088832 then (spec_l10Depths.l0 k l0 (List.replicate 128 0) (([a1] : List Int)) 1) else (none)
theorem spec_l10Depths.mono_l : ∀ k, (∀ y0 y1 y2 y3, LeO (spec_l10Depths.l0 k y0 y1 y2 y3) (spec_l10Depths.l0 (k + 1) y0 y1 y2 y3)) ∧ (∀ y0 y1 y2 y3 y4 y5, LeO (spec_l10Depths.l1 k y0 y1 y2 y3 y4 y5) (spec_l10Depths.l1 (k + 1) y0 y1 y2 y3 y4 y5)) ∧ (∀ y0 y1 y2 y3 y4 y5 y6 y7, LeO (spec_l10Depths.l2 k y0 y1 y2 y3 y4 y5 y6 y7) (spec_l10Depths.l2 (k + 1) y0 y1 y2 y3 y4 y5 y6 y7))
 | 0 => ⟨fun _ _ _ _ r h => by simp [spec_l10Depths.l0] at h, fun _ _ _ _ _ _ r h => by simp [spec_l10Depths.l1] at h, fun _ _ _ _ _ _ _ _ r h => by simp [spec_l10Depths.l2] at h⟩
 | k + 1 => by
  obtain ⟨ih0, ih1, ih2⟩ := spec_l10Depths.mono_l k
  refine ⟨?_, ?_, ?_⟩
  ·intro y0 y1 y2 y3
   unfold spec_l10Depths.l0
   repeat' first
   | (with_reducible exact ih0 _ _ _ _)
   | (with_reducible exact ih1 _ _ _ _ _ _)
   | (with_reducible exact ih2 _ _ _ _ _ _ _ _)
   | (with_reducible exact spec_SuccessorsOf.mono _ _ _)
   | (with_reducible exact LeO.refl _)
   | (with_reducible exact LeO.none _)
   | (with_reducible refine LeO.ite ?_ ?_)
   | (with_reducible refine LeO.bind ?_ (fun _ => ?_))
   | exact ih0 _ _ _ _
   | exact ih1 _ _ _ _ _ _
   | exact ih2 _ _ _ _ _ _ _ _
   | exact spec_SuccessorsOf.mono _ _ _
   | exact LeO.none _
   | refine LeO.ite ?_ ?_
   | refine LeO.bind ?_ (fun _ => ?_)
  ·intro y0 y1 y2 y3 y4 y5
   unfold spec_l10Depths.l1
   repeat' first
   | (with_reducible exact ih0 _ _ _ _)
   | (with_reducible exact ih1 _ _ _ _ _ _)
   | (with_reducible exact ih2 _ _ _ _ _ _ _ _)
   | (with_reducible exact spec_SuccessorsOf.mono _ _ _)
   | (with_reducible exact LeO.refl _)
   | (with_reducible exact LeO.none _)
   | (with_reducible refine LeO.ite ?_ ?_)
   | (with_reducible refine LeO.bind ?_ (fun _ => ?_))
   | exact ih0 _ _ _ _
   | exact ih1 _ _ _ _ _ _
   | exact ih2 _ _ _ _ _ _ _ _
   | exact spec_SuccessorsOf.mono _ _ _
   | exact LeO.none _
   | refine LeO.ite ?_ ?_
   | refine LeO.bind ?_ (fun _ => ?_)
  ·intro y0 y1 y2 y3 y4 y5 y6 y7
   unfold spec_l10Depths.l2
   repeat' first
   | (with_reducible exact ih0 _ _ _ _)
   | (with_reducible exact ih1 _ _ _ _ _ _)
   | (with_reducible exact ih2 _ _ _ _ _ _ _ _)
   | (with_reducible exact spec_SuccessorsOf.mono _ _ _)
   | (with_reducible exact LeO.refl _)
   | (with_reducible exact LeO.none _)
   | (with_reducible refine LeO.ite ?_ ?_)
   | (with_reducible refine LeO.bind ?_ (fun _ => ?_))
   | exact ih0 _ _ _ _
   | exact ih1 _ _ _ _ _ _
   | exact ih2 _ _ _ _ _ _ _ _
   | exact spec_SuccessorsOf.mono _ _ _
   | exact LeO.none _
   | refine LeO.ite ?_ ?_
   | refine LeO.bind ?_ (fun _ => ?_)
theorem spec_l10Depths.mono : ∀ a0 a1 k, LeO (spec_l10Depths.f k a0 a1) (spec_l10Depths.f (k + 1) a0 a1) := by
 intro a0 a1 k
 obtain ⟨ih0, ih1, ih2⟩ := spec_l10Depths.mono_l k
 unfold spec_l10Depths.f
 repeat' first
   | (with_reducible exact ih0 _ _ _ _)
   | (with_reducible exact ih1 _ _ _ _ _ _)
   | (with_reducible exact ih2 _ _ _ _ _ _ _ _)
   | (with_reducible exact spec_SuccessorsOf.mono _ _ _)
   | (with_reducible exact LeO.refl _)
   | (with_reducible exact LeO.none _)
   | (with_reducible refine LeO.ite ?_ ?_)
   | (with_reducible refine LeO.bind ?_ (fun _ => ?_))
   | exact ih0 _ _ _ _
   | exact ih1 _ _ _ _ _ _
   | exact ih2 _ _ _ _ _ _ _ _
   | exact spec_SuccessorsOf.mono _ _ _
   | exact LeO.none _
   | refine LeO.ite ?_ ?_
   | refine LeO.bind ?_ (fun _ => ?_)
set_option maxHeartbeats 8000000 in
set_option maxRecDepth 100000 in
theorem spec_l10Depths.calls (k : Nat) (A0 : Option Addr) (c0 : Nat) (l0 : List (S94)) (a1 : Int) (r : List Int) (w : World) (hr0 : Kd.C k94 w A0 l0.length l0) (hc0 : l0.length ≤ c0) (h : spec_l10Depths.f k l0 a1 = some r) :
  Calls Try.prog 115 #[.slice A0 l0.length c0, .int .i64 a1] w fun e w' => ∃ v0_ : Value, e = .returned (v0_) ∧ Kd.R (Kd.int .i64) 3 w' w.heap.size (fun _ => True) v0_ r ∧ Below w.heap.size w w' := by
 have HR0 := Aside0.mk hr0
 have HC0 := Aside0.mk hc0
 clear hr0 hc0
 have HB := Aside0.mk (Below.refl w.heap.size w)
 have H : (if 128 ≤ 35184372088832 then (spec_l10Depths.l0 k l0 (List.replicate 128 0) (([a1] : List Int)) 1) else (none)) = some r := h
 clear h
 by_cases c3 : 128 ≤ 35184372088832
 ·rw [if_pos c3] at H
  have c3b0 := eq_true c3
  have c3b1 : decide (128 ≤ 35184372088832) = true := decide_eq_true c3
  clear c3
  obtain ⟨y186, hy186⟩ : ∃ y_ : List Int, y_ = (List.replicate 128 0) := ⟨_, rfl⟩
  replace H : (spec_l10Depths.l0 k l0 y186 (([a1] : List Int)) 1) = some r := by first | (rw [hy186]; with_reducible exact H) | (have H2_ := (Option.bind_some _ _).symm.trans H; rw [hy186]; with_reducible exact H2_) | (have H2_ := (Option.bind_some _ _).symm.trans H; with_reducible exact H2_) | with_reducible exact H | (rw [hy186]; exact H) | exact H
  have Ny186 := Aside0.mk hy186
  clear hy186
  obtain ⟨y189, hy189⟩ : ∃ y_ : List Int, y_ = (([a1] : List Int)) := ⟨_, rfl⟩
  replace H : (spec_l10Depths.l0 k l0 y186 y189 1) = some r := by first | (rw [hy189]; with_reducible exact H) | (have H2_ := (Option.bind_some _ _).symm.trans H; rw [hy189]; with_reducible exact H2_) | (have H2_ := (Option.bind_some _ _).symm.trans H; with_reducible exact H2_) | with_reducible exact H | (rw [hy189]; exact H) | exact H
  have Ny189 := Aside0.mk hy189
  clear hy189
  have H' := Aside0.mk H
  clear H
  go_enter Try.func115, Try.ntmps115
  go_wp2_with (first | ((with_reducible refine gate_dst (N := 12) rfl ?_); refine Kd.R_make (Kd.int .i64) _ 3 rfl (N := 12) rfl 29 _ _ rfl 128 rfl rfl Try.underlying29 (.int .i64 0) 8 info3 rfl (by decide) (by omega) 0 (ok := fun _ => True) (okp := fun _ => True) rfl (fun _ hk => hk) trivial (by omega) (by omega) (Below.refl _ _) (Nat.le_refl _) ?_; intro v187 w4 ho5 hb hg_ hnew_; clear hg_ hnew_; (first | rw [← Ny186.out] at ho5 | (simp only [Int.reduceToNat] at ho5; rw [← Ny186.out] at ho5)); have HO188 := Aside0.mk (Kd.R_lower ho5 (bz_ HB.out)); replace HB := Aside0.mk (bs_ HB.out hb); clear hb ho5) | ((with_reducible refine gate_dst (N := 14) rfl ?_); refine Kd.R_lit (Kd.int .i64) _ 3 ?hg (N := 14) ?hd (xs := ([a1] : List Int)) (inner := [.int .i64 a1]) (ok := fun _ => True) (okp := fun _ => True) ?hr ?hp (fun _ hk => hk) trivial (Below.refl _ _) (Nat.le_refl _) (by simp) ?_; (case hd => rfl); (case hg => rfl); (case hr => first | (go_simp; done) | (go_simp; rfl)); (case hp => exact (Reps.one (show Kd.M (Kd.int .i64) _ _ _ a1 [.int .i64 a1] from rfl) (Reps.none _ _))); intro v190 w6 ho7 hb hg_ hnew_; clear hg_ hnew_; (first | rw [← Ny189.out] at ho7 | (simp only [Int.reduceToNat] at ho7; rw [← Ny189.out] at ho7)); have HO191 := Aside0.mk (Kd.R_lower (Kd.R_new' ho7 (rl_ HO188.out)) (bz_ HB.out)); replace HO188 := Aside0.mk (Kd.R_elder' (ra_ HO188.out) (Kd.R_base ho7) hb); replace HB := Aside0.mk (bs_ HB.out hb); clear hb ho7))
  go_loopg [6, 7] k (fun kq v6 v7 w' => ∃ (x5_1 : List Int) (x6_1 : List Int) (x7_1 : Int), v7 = .int .i64 x7_1 ∧ Aside0 (spec_l10Depths.l0 kq l0 x5_1 x6_1 x7_1 = some r) ∧ Aside0 (kq ≤ k) ∧ Aside0 (Kd.R (Kd.int .i64) 3 w' w.heap.size (fun k_ => some k_ ≠ (v6 : Value).ownBlock) v187 x5_1) ∧ Aside0 (Kd.R (Kd.int .i64) 3 w' w.heap.size (fun k_ => some k_ ≠ (v187 : Value).ownBlock) v6 x6_1) ∧ Aside0 (Below w.heap.size w w'))
  case atStart => exact ⟨(y186), (y189), (1), ef_, H', ⟨Nat.le_refl _⟩, ⟨by (with_reducible repeat (first | apply Kd.R_alloc | apply Kd.R_drewN | apply Kd.R_drew)); exact Kd.R_mono HO188.out (fun _ hk => hk.2)⟩, ⟨by (with_reducible repeat (first | apply Kd.R_alloc | apply Kd.R_drewN | apply Kd.R_drew)); exact Kd.R_mono HO191.out (fun _ hk => hk.2)⟩, ⟨bb_ HB.out⟩⟩
  case round =>
   clear H'
   try clear c3
   try clear c3b0
   try clear c3b1
   obtain ⟨x5_1, x6_1, x7_1, rfl, HA, HK1, HO_5, HO_6, HB⟩ := hrel
   cases gk with
   | zero => exact absurd HA.out (by simp [spec_l10Depths.l0])
   | succ k1 =>
    have H := HA.out
    clear HA
    simp only [spec_l10Depths.l0] at H
    by_cases c8 : (x6_1.length : Int) > 0
    ·rw [if_pos c8] at H
     have c8b0 : decide (0 < (x6_1.length : Int)) = true := decide_eq_true c8
     have c8b1 : decide (0 < x6_1.length) = true := decide_eq_true (by omega)
     clear c8
     obtain ⟨y192, hy192⟩ : ∃ y_ : List Int, y_ = (([] : List Int)) := ⟨_, rfl⟩
     replace H : (spec_l10Depths.l1 k1 l0 x5_1 x6_1 x7_1 y192 0) = some r := by first | (rw [hy192]; with_reducible exact H) | (have H2_ := (Option.bind_some _ _).symm.trans H; rw [hy192]; with_reducible exact H2_) | (have H2_ := (Option.bind_some _ _).symm.trans H; with_reducible exact H2_) | with_reducible exact H | (rw [hy192]; exact H) | exact H
     have Ny192 := Aside0.mk hy192
     clear hy192
     have H' := Aside0.mk H
     clear H
     obtain ⟨Ao9, co9, eo9⟩ := Kd.R_slice HO_6.out
     subst eo9
     go_wp2_with (first | ((with_reducible refine gate_dst (N := 20) rfl ?_); refine Kd.R_lit (Kd.int .i64) _ 3 ?hg (N := 20) ?hd (xs := ([] : List Int)) (inner := []) (ok := fun _ => True) (okp := fun _ => True) ?hr ?hp (fun _ hk => hk) trivial (Below.refl _ _) (Nat.le_refl _) (by simp) ?_; (case hd => rfl); (case hg => rfl); (case hr => first | (go_simp; done) | (go_simp; rfl)); (case hp => exact (Reps.none _ _)); intro v193 w10 ho11 hb hg_ hnew_; clear hg_ hnew_; (first | rw [← Ny192.out] at ho11 | (simp only [Int.reduceToNat] at ho11; rw [← Ny192.out] at ho11)); have HO194 := Aside0.mk (Kd.R_lower (Kd.R_new' (Kd.R_new' ho11 (rl_ HO_5.out)) (rl_ HO_6.out)) (bz_ HB.out)); replace HO_5 := Aside0.mk (Kd.R_elder' (ra_ HO_5.out) (Kd.R_base ho11) hb); replace HO_6 := Aside0.mk (Kd.R_elder' (ra_ HO_6.out) (Kd.R_base ho11) hb); replace HB := Aside0.mk (bs_ HB.out hb); clear hb ho11))
     go_loopg [8, 9] k1 (fun kq v8 v9 w' => ∃ (x5_2 : List Int) (x8_2 : List Int) (x9_2 : Int), v9 = .int .i64 x9_2 ∧ Aside0 (spec_l10Depths.l1 kq l0 x5_2 x6_1 x7_1 x8_2 x9_2 = some r) ∧ Aside0 (kq ≤ k1) ∧ Aside0 (Kd.R (Kd.int .i64) 3 w' w.heap.size (fun k_ => some k_ ≠ ((.slice Ao9 x6_1.length co9) : Value).ownBlock ∧ some k_ ≠ (v8 : Value).ownBlock) v187 x5_2) ∧ Aside0 (Kd.R (Kd.int .i64) 3 w' w.heap.size (fun k_ => some k_ ≠ (v187 : Value).ownBlock ∧ some k_ ≠ (v8 : Value).ownBlock) (.slice Ao9 x6_1.length co9) x6_1) ∧ Aside0 (Kd.R (Kd.int .i64) 3 w' w.heap.size (fun k_ => some k_ ≠ (v187 : Value).ownBlock ∧ some k_ ≠ ((.slice Ao9 x6_1.length co9) : Value).ownBlock) v8 x8_2) ∧ Aside0 (Below w.heap.size w w'))
     case atStart => exact ⟨(x5_1), (y192), (0), ef_, H', ⟨Nat.le_refl _⟩, ⟨by (with_reducible repeat (first | apply Kd.R_alloc | apply Kd.R_drewN | apply Kd.R_drew)); exact HO_5.out⟩, ⟨by (with_reducible repeat (first | apply Kd.R_alloc | apply Kd.R_drewN | apply Kd.R_drew)); exact HO_6.out⟩, ⟨by (with_reducible repeat (first | apply Kd.R_alloc | apply Kd.R_drewN | apply Kd.R_drew)); exact Kd.R_mono HO194.out (fun _ hk => ⟨hk.1.2, hk.2⟩)⟩, ⟨bb_ HB.out⟩⟩
     case round =>
      clear H'
      try clear c3
      try clear c3b0
      try clear c3b1
      try clear c8
      try clear c8b0
      try clear c8b1
      obtain ⟨x5_2, x8_2, x9_2, rfl, HA, HK2, HO_5, HO_6, HO_8, HB⟩ := hrel
      cases gk with
      | zero => exact absurd HA.out (by simp [spec_l10Depths.l1])
      | succ k2 =>
       have H := HA.out
       clear HA
       simp only [spec_l10Depths.l1] at H
       by_cases c12 : x9_2 < (x6_1.length : Int)
       ·rw [if_pos c12] at H
        have c12b0 : decide (x9_2 < (x6_1.length : Int)) = true := decide_eq_true c12
        clear c12
        by_cases c13 : 0 ≤ x9_2
        ·rw [if_pos c13] at H
         have c13b0 : decide (0 ≤ x9_2) = true := decide_eq_true c13
         clear c13
         replace H := Option.bind_eq_some_iff.mp H
         obtain ⟨t196, A140, H⟩ := H
         try dsimp only at H
         have A14 := Aside0.mk A140
         clear A140
         have H' := Aside0.mk H
         clear H
         have p195 : 0 ≤ (x9_2 : Int) := of_decide_eq_true dg_
         have q195 : x9_2 < (x6_1.length : Int) := of_decide_eq_true dg_
         obtain ⟨ad195, e195, hx195_0⟩ := Kd.at_int (Kd.R_reads' HO_6.out).2.2 x9_2 p195 q195
         cases e195
         replace p195 := eq_true p195
         replace q195 := eq_true q195
         go_wp2_with (first | ((with_reducible refine gate_callee (f := 114) rfl ?_); refine gm_ (some 32) Try.func114 #[.slice A0 l0.length c0, .int .i64 (rd x6_1 x9_2)] rfl ?_; (with_reducible refine (spec_SuccessorsOf.calls k2 _ _ l0 (rd x6_1 x9_2) t196 _ ?side1 HC0.out A14.out).mono ?_); (case side1 => exact cb_ HR0.out HB.out); rintro e w15 ⟨v197, rfl, ho0, hb⟩; refine ⟨_, rfl, ?_⟩; have HO198 := Aside0.mk (Kd.R_lower (Kd.R_new' (Kd.R_new' (Kd.R_new' ho0 (rl_ HO_5.out)) (rl_ HO_6.out)) (rl_ HO_8.out)) (bz_ HB.out)); replace HO_5 := Aside0.mk (Kd.R_elder' (ra_ HO_5.out) (Kd.R_base ho0) hb); replace HO_6 := Aside0.mk (Kd.R_elder' (ra_ HO_6.out) (Kd.R_base ho0) hb); replace HO_8 := Aside0.mk (Kd.R_elder' (ra_ HO_8.out) (Kd.R_base ho0) hb); replace HB := Aside0.mk (bs_ HB.out hb); (try clear hb); (try clear ho0)))
         go_loopg [8, 11] k2 (fun kq v8 v11 w' => ∃ (x5_3 : List Int) (x8_3 : List Int) (x11_3 : Int), v11 = .int .i64 x11_3 ∧ Aside0 (spec_l10Depths.l2 kq l0 x5_3 x6_1 x7_1 x8_3 x9_2 t196 x11_3 = some r) ∧ Aside0 (kq ≤ k2) ∧ Aside0 (Kd.R (Kd.int .i64) 3 w' w.heap.size (fun k_ => some k_ ≠ ((.slice (some ad195) x6_1.length co9) : Value).ownBlock ∧ some k_ ≠ (v8 : Value).ownBlock ∧ some k_ ≠ (v197 : Value).ownBlock) v187 x5_3) ∧ Aside0 (Kd.R (Kd.int .i64) 3 w' w.heap.size (fun k_ => some k_ ≠ (v187 : Value).ownBlock ∧ some k_ ≠ (v8 : Value).ownBlock ∧ some k_ ≠ (v197 : Value).ownBlock) (.slice (some ad195) x6_1.length co9) x6_1) ∧ Aside0 (Kd.R (Kd.int .i64) 3 w' w.heap.size (fun k_ => some k_ ≠ (v187 : Value).ownBlock ∧ some k_ ≠ ((.slice (some ad195) x6_1.length co9) : Value).ownBlock ∧ some k_ ≠ (v197 : Value).ownBlock) v8 x8_3) ∧ Aside0 (Kd.R (Kd.int .i64) 3 w' w.heap.size (fun k_ => some k_ ≠ (v187 : Value).ownBlock ∧ some k_ ≠ ((.slice (some ad195) x6_1.length co9) : Value).ownBlock ∧ some k_ ≠ (v8 : Value).ownBlock) v197 t196) ∧ Aside0 (Below w.heap.size w w'))
         case atStart => exact ⟨(x5_2), (x8_2), (0), ef_, H', ⟨Nat.le_refl _⟩, ⟨by (with_reducible repeat (first | apply Kd.R_alloc | apply Kd.R_drewN | apply Kd.R_drew)); exact Kd.R_mono HO_5.out (fun _ hk => ⟨hk.1.1, ⟨hk.1.2, hk.2⟩⟩)⟩, ⟨by (with_reducible repeat (first | apply Kd.R_alloc | apply Kd.R_drewN | apply Kd.R_drew)); exact Kd.R_mono HO_6.out (fun _ hk => ⟨hk.1.1, ⟨hk.1.2, hk.2⟩⟩)⟩, ⟨by (with_reducible repeat (first | apply Kd.R_alloc | apply Kd.R_drewN | apply Kd.R_drew)); exact Kd.R_mono HO_8.out (fun _ hk => ⟨hk.1.1, ⟨hk.1.2, hk.2⟩⟩)⟩, ⟨by (with_reducible repeat (first | apply Kd.R_alloc | apply Kd.R_drewN | apply Kd.R_drew)); exact Kd.R_mono HO198.out (fun _ hk => ⟨hk.1.1.2, ⟨hk.1.2, hk.2⟩⟩)⟩, ⟨bb_ HB.out⟩⟩
         case round =>
          clear H'
          try clear c3
          try clear c3b0
          try clear c3b1
          try clear c8
          try clear c8b0
          try clear c8b1
          try clear c12
          try clear c12b0
          try clear c13
          try clear c13b0
          try clear hx195_0
          try clear p195
          try clear q195
          obtain ⟨x5_3, x8_3, x11_3, rfl, HA, HK3, HO_5, HO_6, HO_8, HO_10, HB⟩ := hrel
          cases gk with
          | zero => exact absurd HA.out (by simp [spec_l10Depths.l2])
          | succ k3 =>
           have H := HA.out
           clear HA
           simp only [spec_l10Depths.l2] at H
           by_cases c16 : x11_3 < (t196.length : Int)
           ·rw [if_pos c16] at H
            have c16b0 : decide (x11_3 < (t196.length : Int)) = true := decide_eq_true c16
            clear c16
            by_cases c17 : 0 ≤ x11_3
            ·rw [if_pos c17] at H
             have c17b0 : decide (0 ≤ x11_3) = true := decide_eq_true c17
             clear c17
             by_cases c18 : 0 ≤ (rd t196 x11_3)
             ·rw [if_pos c18] at H
              have c18b0 : decide (0 ≤ (rd t196 x11_3)) = true := decide_eq_true c18
              clear c18
              by_cases c19 : (rd t196 x11_3) < (x5_3.length : Int)
              ·rw [if_pos c19] at H
               have c19b0 : decide ((rd t196 x11_3) < (x5_3.length : Int)) = true := decide_eq_true c19
               clear c19
               by_cases c20 : (rd x5_3 (rd t196 x11_3)) = 0
               ·rw [if_pos c20] at H
                have c20b0 : ((rd x5_3 (rd t196 x11_3)) == 0) = true := beq_iff_eq.mpr c20
                have c20b1 : ((rd x5_3 (rd t196 x11_3)) != 0) = false := bne_eq_false_iff_eq.mpr c20
                clear c20
                obtain ⟨y202, hy202⟩ : ∃ y_ : List Int, y_ = (x5_3.set ((rd t196 x11_3) : Int).toNat x7_1) := ⟨_, rfl⟩
                replace H : (if x8_3.length < 17592186044416 then (spec_l10Depths.l2 k3 l0 y202 x6_1 x7_1 (x8_3 ++ [rd t196 x11_3]) x9_2 t196 (wrap64 (x11_3 + 1))) else (none)) = some r := by first | (rw [hy202]; with_reducible exact H) | (have H2_ := (Option.bind_some _ _).symm.trans H; rw [hy202]; with_reducible exact H2_) | (have H2_ := (Option.bind_some _ _).symm.trans H; with_reducible exact H2_) | with_reducible exact H | (rw [hy202]; exact H) | exact H
                have Ny202 := Aside0.mk hy202
                clear hy202
                by_cases c22 : x8_3.length < 17592186044416
                ·rw [if_pos c22] at H
                 have LMc22 := Aside0.mk c22
                 clear c22
                 obtain ⟨y204, hy204⟩ : ∃ y_ : List Int, y_ = (x8_3 ++ [rd t196 x11_3]) := ⟨_, rfl⟩
                 replace H : (spec_l10Depths.l2 k3 l0 y202 x6_1 x7_1 y204 x9_2 t196 (wrap64 (x11_3 + 1))) = some r := by first | (rw [hy204]; with_reducible exact H) | (have H2_ := (Option.bind_some _ _).symm.trans H; rw [hy204]; with_reducible exact H2_) | (have H2_ := (Option.bind_some _ _).symm.trans H; with_reducible exact H2_) | with_reducible exact H | (rw [hy204]; exact H) | exact H
                 have Ny204 := Aside0.mk hy204
                 clear hy204
                 have H' := Aside0.mk H
                 clear H
                 obtain ⟨Ao23, co23, eo23⟩ := Kd.R_slice HO_10.out
                 subst eo23
                 have p199 : 0 ≤ (x11_3 : Int) := of_decide_eq_true dg_
                 have q199 : x11_3 < (t196.length : Int) := of_decide_eq_true dg_
                 obtain ⟨ad199, e199, hx199_0⟩ := Kd.at_int (Kd.R_reads' HO_10.out).2.2 x11_3 p199 q199
                 cases e199
                 replace p199 := eq_true p199
                 replace q199 := eq_true q199
                 obtain ⟨Ao24, co24, eo24⟩ := Kd.R_slice HO_5.out
                 subst eo24
                 have p200 : 0 ≤ ((rd t196 x11_3) : Int) := of_decide_eq_true dg_
                 have q200 : (rd t196 x11_3) < (x5_3.length : Int) := of_decide_eq_true dg_
                 obtain ⟨ad200, e200, hx200_0⟩ := Kd.at_int (Kd.R_reads' HO_5.out).2.2 (rd t196 x11_3) p200 q200
                 cases e200
                 replace p200 := eq_true p200
                 replace q200 := eq_true q200
                 have p201 : 0 ≤ (x11_3 : Int) := of_decide_eq_true dg_
                 have q201 : x11_3 < (t196.length : Int) := of_decide_eq_true dg_
                 obtain ⟨ad201, e201, hx201_0⟩ := Kd.at_int (Kd.R_reads' HO_10.out).2.2 x11_3 p201 q201
                 obtain rfl : ad199 = ad201 := (by injection e201)
                 replace p201 := eq_true p201
                 replace q201 := eq_true q201
                 have p21 : 0 ≤ ((rd t196 x11_3) : Int) := of_decide_eq_true dg_
                 have q21 : ((rd t196 x11_3) : Int) < ((x5_3.length : Int) : Int) := of_decide_eq_true dg_
                 obtain ⟨go21, co21, eo21, gb21, gl21, cl21, HG21⟩ := Kd.R_form HO_5.out (by omega)
                 (first | cases eo21 | (injection eo21 with ea_ en_ ec_; (first | subst ea_ | (injection ea_ with ea_; subst ea_)); subst ec_; clear en_))
                 have GB21 := Aside0.mk gb21
                 have GG21 := Aside0.mk HG21
                 clear gb21 gl21 HG21
                 (first | simp only [add_plain] at hx200_0 | skip)
                 obtain ⟨hx21_0, hf21_0⟩ := Kd.R_celln 0 HO_5.out ((rd t196 x11_3) : Int) p21 q21
                 replace p21 := eq_true p21
                 replace q21 := eq_true q21
                 have HP25 := Kd.R_putg HO_5.out ((rd t196 x11_3) : Int) x7_1
                 go_wp2_with (first | ((with_reducible refine gate_store (t := 3) (p := 53) rfl ?_); refine store_event (t := 3) (p := 53) (v := ?vo_w26) (w1 := (wr.setCell ⟨go21, ((rd t196 x11_3) : Int).toNat, none⟩ (.int .i64 x7_1))) ?hg ?ho ?hn ?hr ?_; (case ho => rfl); (case hg => rfl); (case hn => rfl); (case hr => first | (go_simp; done) | (go_simp; rfl)); intro w26 hw; have hg : wr.grownBy w26 (some go21) := (by rw [hw]; exact HP25.2); have hp_ : Kd.R (Kd.int .i64) 3 w26 w.heap.size (fun k_ => some k_ ≠ (.slice (some ad195) x6_1.length co9 : Value).ownBlock ∧ some k_ ≠ (u8 : Value).ownBlock ∧ some k_ ≠ (.slice (some ad199) t196.length co23 : Value).ownBlock) (.slice (some ⟨go21, 0, none⟩) x5_3.length co24) y202 := (by rw [hw, Ny202.out]; exact HP25.1); clear HP25; replace HO_5 := Aside0.mk (hp_); replace HO_6 := Aside0.mk (Kd.R_after (v := (.slice (some ⟨go21, 0, none⟩) x5_3.length co24)) (v1 := (.slice (some ⟨go21, 0, none⟩) x5_3.length co24)) (ok := (fun k_ => some k_ ≠ (u8 : Value).ownBlock ∧ some k_ ≠ (.slice (some ad199) t196.length co23 : Value).ownBlock)) (by (with_reducible repeat (first | apply Kd.R_alloc | apply Kd.R_drewN | apply Kd.R_drew)); exact Kd.R_mono HO_6.out (fun _ hk => ⟨⟨hk.2.1, hk.2.2⟩, hk.1⟩)) hg (.inl rfl)); replace HO_8 := Aside0.mk (Kd.R_after (v := (.slice (some ⟨go21, 0, none⟩) x5_3.length co24)) (v1 := (.slice (some ⟨go21, 0, none⟩) x5_3.length co24)) (ok := (fun k_ => some k_ ≠ (.slice (some ad195) x6_1.length co9 : Value).ownBlock ∧ some k_ ≠ (.slice (some ad199) t196.length co23 : Value).ownBlock)) (by (with_reducible repeat (first | apply Kd.R_alloc | apply Kd.R_drewN | apply Kd.R_drew)); exact Kd.R_mono HO_8.out (fun _ hk => ⟨⟨hk.2.1, hk.2.2⟩, hk.1⟩)) hg (.inl rfl)); replace HO_10 := Aside0.mk (Kd.R_after (v := (.slice (some ⟨go21, 0, none⟩) x5_3.length co24)) (v1 := (.slice (some ⟨go21, 0, none⟩) x5_3.length co24)) (ok := (fun k_ => some k_ ≠ (.slice (some ad195) x6_1.length co9 : Value).ownBlock ∧ some k_ ≠ (u8 : Value).ownBlock)) (by (with_reducible repeat (first | apply Kd.R_alloc | apply Kd.R_drewN | apply Kd.R_drew)); exact Kd.R_mono HO_10.out (fun _ hk => ⟨⟨hk.2.1, hk.2.2⟩, hk.1⟩)) hg (.inl rfl)); replace HB := Aside0.mk ((by rw [hw]; exact below_set (HB.out) GB21.out : Below w.heap.size w w26)); clear hg hw hp_; have p203 : 0 ≤ (x11_3 : Int) := of_decide_eq_true dg_; have q203 : x11_3 < (t196.length : Int) := of_decide_eq_true dg_; obtain ⟨ad203, e203, hx203_0⟩ := Kd.at_int (Kd.R_reads' HO_10.out).2.2 x11_3 p203 q203; obtain rfl : ad199 = ad203 := (by injection e203); replace p203 := eq_true p203; replace q203 := eq_true q203) | ((with_reducible refine gate_builtin (b := .append) (xs := #[.tmp 54, .tmp 59]) rfl ?_); at_builtin; refine Kd.R_append (Kd.int .i64) (w0 := w) w.heap.size rfl (.tmp 54) (.tmp 59) 29 3 (.int .i64 0) 8 rfl Try.underlying29 info3 rfl (by decide) (by omega) u8 x8_3 (rd t196 x11_3) [.int .i64 (rd t196 x11_3)] (fun k_ => some k_ ≠ (.slice (some ⟨go21, 0, none⟩) x5_3.length co24 : Value).ownBlock ∧ some k_ ≠ (.slice (some ad195) x6_1.length co9 : Value).ownBlock ∧ some k_ ≠ (.slice (some ad199) t196.length co23 : Value).ownBlock) (fun _ => False) rfl rfl ?aP (fun _ hk => hk.elim) ?aF ?aO ?aB ?aS ?aL ?_; (case aP => exact rfl); (case aB => exact (by repeat (first | (with_reducible first | exact HB.out | apply below_alloc | apply pw_below_drewN | apply below_drew1) | exact HB.out))); (case aF => exact (fun k_ hk => ⟨Kd.fresh' (rl_ HO_5.out) k_ hk, Kd.fresh' (rl_ HO_6.out) k_ hk, Kd.fresh' (rl_ HO_10.out) k_ hk⟩)); (case aO => exact (by (with_reducible repeat (first | apply Kd.R_alloc | apply Kd.R_drewN | apply Kd.R_drew)); exact Kd.R_mono HO_8.out (fun _ hk => ⟨hk.2, ⟨hk.1.1, hk.1.2⟩⟩))); (case aS => exact (bz_ HB.out)); (case aL => have := LMc22.out; omega); intro v205 w27 ho hb hg hat; rw [← Ny204.out] at ho; have n0_ := Aside0.mk (Kd.R_after (ok := (fun k_ => some k_ ≠ (.slice (some ad195) x6_1.length co9 : Value).ownBlock ∧ some k_ ≠ (.slice (some ad199) t196.length co23 : Value).ownBlock)) (by (with_reducible repeat (first | apply Kd.R_alloc | apply Kd.R_drewN | apply Kd.R_drew)); exact Kd.R_mono HO_5.out (fun _ hk => ⟨⟨hk.1, hk.2.2⟩, hk.2.1⟩)) hg hat); have n1_ := Aside0.mk (Kd.R_after (ok := (fun k_ => some k_ ≠ (.slice (some ⟨go21, 0, none⟩) x5_3.length co24 : Value).ownBlock ∧ some k_ ≠ (.slice (some ad199) t196.length co23 : Value).ownBlock)) (by (with_reducible repeat (first | apply Kd.R_alloc | apply Kd.R_drewN | apply Kd.R_drew)); exact Kd.R_mono HO_6.out (fun _ hk => ⟨⟨hk.2, hk.1.2⟩, hk.1.1⟩)) hg hat); have n2_ := Aside0.mk (Kd.R_after (ok := (fun k_ => some k_ ≠ (.slice (some ⟨go21, 0, none⟩) x5_3.length co24 : Value).ownBlock ∧ some k_ ≠ (.slice (some ad195) x6_1.length co9 : Value).ownBlock)) (by (with_reducible repeat (first | apply Kd.R_alloc | apply Kd.R_drewN | apply Kd.R_drew)); exact Kd.R_mono HO_10.out (fun _ hk => ⟨⟨hk.2, hk.1.1⟩, hk.1.2⟩)) hg hat); have n3_ := Aside0.mk (hb); have n4_ := Aside0.mk (ho); clear HO_5; clear HO_6; clear HO_10; clear HB; clear HO_8; have HO_5 := n0_; have HO_6 := n1_; have HO_10 := n2_; have HB := n3_; have HO206 := n4_; clear n0_ n1_ n2_ n3_ n4_; clear ho hb hg hat))
                 go_roundg k3
                 case measure => have := HK1.out; have := HK2.out; have := HK3.out; omega
                 case rel => exact ⟨(y202), (y204), (wrap64 (x11_3 + 1)), ef_, H', ⟨by have := HK1.out; have := HK2.out; have := HK3.out; omega⟩, ⟨by (with_reducible repeat (first | apply Kd.R_alloc | apply Kd.R_drewN | apply Kd.R_drew)); exact Kd.R_mono HO_5.out (fun _ hk => ⟨hk.1.1, ⟨hk.2, hk.1.2⟩⟩)⟩, ⟨by (with_reducible repeat (first | apply Kd.R_alloc | apply Kd.R_drewN | apply Kd.R_drew)); exact Kd.R_mono HO_6.out (fun _ hk => ⟨hk.1.1, ⟨hk.2, hk.1.2⟩⟩)⟩, ⟨by (with_reducible repeat (first | apply Kd.R_alloc | apply Kd.R_drewN | apply Kd.R_drew)); exact HO206.out⟩, ⟨by (with_reducible repeat (first | apply Kd.R_alloc | apply Kd.R_drewN | apply Kd.R_drew)); exact Kd.R_mono HO_10.out (fun _ hk => ⟨hk.1.1, ⟨hk.1.2, hk.2⟩⟩)⟩, ⟨bb_ HB.out⟩⟩
                ·rw [if_neg c22] at H
                 exact absurd H (by simp)
               ·rw [if_neg c20] at H
                have c20b0 : ((rd x5_3 (rd t196 x11_3)) == 0) = false := beq_eq_false_iff_ne.mpr c20
                have c20b1 : ((rd x5_3 (rd t196 x11_3)) != 0) = true := bne_iff_ne.mpr c20
                have H' := Aside0.mk H
                clear H
                obtain ⟨Ao28, co28, eo28⟩ := Kd.R_slice HO_10.out
                subst eo28
                have p199 : 0 ≤ (x11_3 : Int) := of_decide_eq_true dg_
                have q199 : x11_3 < (t196.length : Int) := of_decide_eq_true dg_
                obtain ⟨ad199, e199, hx199_0⟩ := Kd.at_int (Kd.R_reads' HO_10.out).2.2 x11_3 p199 q199
                cases e199
                replace p199 := eq_true p199
                replace q199 := eq_true q199
                obtain ⟨Ao29, co29, eo29⟩ := Kd.R_slice HO_5.out
                subst eo29
                have p200 : 0 ≤ ((rd t196 x11_3) : Int) := of_decide_eq_true dg_
                have q200 : (rd t196 x11_3) < (x5_3.length : Int) := of_decide_eq_true dg_
                obtain ⟨ad200, e200, hx200_0⟩ := Kd.at_int (Kd.R_reads' HO_5.out).2.2 (rd t196 x11_3) p200 q200
                cases e200
                replace p200 := eq_true p200
                replace q200 := eq_true q200
                go_wp2
                go_roundg k3
                case measure => have := HK1.out; have := HK2.out; have := HK3.out; omega
                case rel => exact ⟨(x5_3), (x8_3), (wrap64 (x11_3 + 1)), ef_, H', ⟨by have := HK1.out; have := HK2.out; have := HK3.out; omega⟩, ⟨by (with_reducible repeat (first | apply Kd.R_alloc | apply Kd.R_drewN | apply Kd.R_drew)); exact HO_5.out⟩, ⟨by (with_reducible repeat (first | apply Kd.R_alloc | apply Kd.R_drewN | apply Kd.R_drew)); exact HO_6.out⟩, ⟨by (with_reducible repeat (first | apply Kd.R_alloc | apply Kd.R_drewN | apply Kd.R_drew)); exact HO_8.out⟩, ⟨by (with_reducible repeat (first | apply Kd.R_alloc | apply Kd.R_drewN | apply Kd.R_drew)); exact HO_10.out⟩, ⟨bb_ HB.out⟩⟩
              ·rw [if_neg c19] at H
               exact absurd H (by simp)
             ·rw [if_neg c18] at H
              exact absurd H (by simp)
            ·rw [if_neg c17] at H
             exact absurd H (by simp)
           ·rw [if_neg c16] at H
            have c16b0 : decide (x11_3 < (t196.length : Int)) = false := decide_eq_false c16
            clear c16
            have H' := Aside0.mk H
            clear H
            obtain ⟨Ao30, co30, eo30⟩ := Kd.R_slice HO_10.out
            subst eo30
            go_wp2
            go_roundg k3
            case measure => have := HK1.out; have := HK2.out; have := HK3.out; omega
            case rel => exact ⟨(x5_3), (x8_3), (wrap64 (x9_2 + 1)), ef_, H', ⟨by have := HK1.out; have := HK2.out; have := HK3.out; omega⟩, ⟨by (with_reducible repeat (first | apply Kd.R_alloc | apply Kd.R_drewN | apply Kd.R_drew)); exact Kd.R_mono HO_5.out (fun _ hk => ⟨hk.1, hk.2.1⟩)⟩, ⟨by (with_reducible repeat (first | apply Kd.R_alloc | apply Kd.R_drewN | apply Kd.R_drew)); exact Kd.R_mono HO_6.out (fun _ hk => ⟨hk.1, hk.2.1⟩)⟩, ⟨by (with_reducible repeat (first | apply Kd.R_alloc | apply Kd.R_drewN | apply Kd.R_drew)); exact Kd.R_mono HO_8.out (fun _ hk => ⟨hk.1, hk.2.1⟩)⟩, ⟨bb_ HB.out⟩⟩
        ·rw [if_neg c13] at H
         exact absurd H (by simp)
       ·rw [if_neg c12] at H
        have c12b0 : decide (x9_2 < (x6_1.length : Int)) = false := decide_eq_false c12
        clear c12
        have H' := Aside0.mk H
        clear H
        go_wp2
        go_roundg k2
        case measure => have := HK1.out; have := HK2.out; omega
        case rel => exact ⟨(x5_2), (x8_2), (wrap64 (x7_1 + 1)), ef_, H', ⟨by have := HK1.out; have := HK2.out; omega⟩, ⟨by (with_reducible repeat (first | apply Kd.R_alloc | apply Kd.R_drewN | apply Kd.R_drew)); exact Kd.R_mono HO_5.out (fun _ hk => hk.2)⟩, ⟨by (with_reducible repeat (first | apply Kd.R_alloc | apply Kd.R_drewN | apply Kd.R_drew)); exact Kd.R_mono HO_8.out (fun _ hk => hk.1)⟩, ⟨bb_ HB.out⟩⟩
    ·rw [if_neg c8] at H
     have c8b0 : decide (0 < (x6_1.length : Int)) = false := decide_eq_false c8
     have c8b1 : decide (0 < x6_1.length) = false := decide_eq_false (by omega)
     clear c8
     obtain rfl := Option.some.inj H
     obtain ⟨Ao31, co31, eo31⟩ := Kd.R_slice HO_6.out
     subst eo31
     go_wp2
     go_ret
     exact ⟨_, fin_, by (with_reducible repeat (first | apply Kd.R_alloc | apply Kd.R_drewN | apply Kd.R_drew)); exact Kd.R_mono HO_5.out (fun _ hk => trivial), bb_ HB.out⟩
 ·rw [if_neg c3] at H
  exact absurd H (by simp)

end Go.Proofs.Ytimdefbpoddoaaa.PFnExactRingIsSafe
-- thin
