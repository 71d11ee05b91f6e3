/- Each function that the law comes to, as a plain function, with the proof that the call in the model gives what that function says (written by a program of this session out of the translation). No condition. -/
import Derived.Test.YtaofkfooijfjbaaPFnExactArrivedAtx0
import Derived.Test.YtaofkfooijfjbaaPFnExactArrivedAtx4
import Derived.Test.YtaofkfooijfjbaaPFnExactArrivedAtx8
namespace Go.Proofs.Ytaofkfooijfjbaa.PFnExactArrivedAt
open Go.RowKit Go.Proofs.YtaofkfooijfjbaaW.PrintWords Go.Proofs.YtaofkfooijfjbaaW.PrintLast Go.Proofs.YtaofkfooijfjbaaW.PrintMore
attribute [local go_sem] max2_int min2_int max_two min_two max_three min_three max_four min_four   -- for this text's walks alone
set_option linter.unusedVariables false
set_option linter.unusedSimpArgs false

/-! ### spec_l17Ok: function 75 -/
def spec_l17Ok.f (k : Nat) (a0_0 : Int) (a0_1 : Int) (l0_2 : List Int) (l0_3 : List Int) (l0_4 : List Int) (l0_5 : List (List (S112))) (l0_6 : List Int) (l0_7 : List Int) (l0_8 : List (List (S112))) (l0_9 : List (List (S112))) (a0_10 : Int) (a1 : Int) (a2 : Int) : Option (Bool) := (spec_NetOk.f k a0_0 a0_1 l0_2 l0_3 l0_4 l0_5 l0_6 l0_7 l0_8 l0_9 a0_10).bind fun t342 => (if t342 = true then ((spec_l02Has.f a0_0 a0_1 a1).bind fun t343 => (if t343 = true then ((spec_l01In.f a2 0 4).bind fun t344 => (some t344)) else (some false))) else (some false))
theorem spec_l17Ok.mono : ∀ a0 a1 a2 a3 a4 a5 a6 a7 a8 a9 a10 a11 a12 k, LeO (spec_l17Ok.f k a0 a1 a2 a3 a4 a5 a6 a7 a8 a9 a10 a11 a12) (spec_l17Ok.f (k + 1) a0 a1 a2 a3 a4 a5 a6 a7 a8 a9 a10 a11 a12) := by
 intro a0 a1 a2 a3 a4 a5 a6 a7 a8 a9 a10 a11 a12 k
 unfold spec_l17Ok.f
 repeat' first
   | (with_reducible exact spec_NetOk.mono _ _ _ _ _ _ _ _ _ _ _ _)
   | (with_reducible exact LeO.refl _)
   | (with_reducible exact LeO.none _)
   | (with_reducible refine LeO.ite ?_ ?_)
   | (with_reducible refine LeO.bind ?_ (fun _ => ?_))
   | exact spec_NetOk.mono _ _ _ _ _ _ _ _ _ _ _ _
   | exact LeO.none _
   | refine LeO.ite ?_ ?_
   | refine LeO.bind ?_ (fun _ => ?_)
theorem spec_l17Ok.e0 {P : Prop} (h : P := by
 go_enter Try.func75, Try.ntmps75
 go_wp2_with (first | ((with_reducible refine gate_dst (N := 3) rfl ?_); refine box_event ?hg (N := 3) ?hd (cs := #[.int .i64 a0_0, .int .i64 a0_1, .slice A0_2 l0_2.length c0_2, .slice A0_3 l0_3.length c0_3, .slice A0_4 l0_4.length c0_4, .slice A0_5 l0_5.length c0_5, .slice A0_6 l0_6.length c0_6, .slice A0_7 l0_7.length c0_7, .slice A0_8 l0_8.length c0_8, .slice A0_9 l0_9.length c0_9, .int .i64 a0_10]) (t := 37) ?hr ?_; (case hd => rfl); (case hg => rfl); (case hr => first | (go_simp; done) | (go_simp; rfl)); intro gb341 hg w_0 hbox hb; have BK341 := Aside0.mk (hbox); have GW341 := Aside0.mk ((by rw [hg]; exact (bz_ HB.out) : w.heap.size ≤ gb341)); have GE341 := Aside0.mk ((by rw [hg]; exact (bz_ HB.out) : w.heap.size ≤ gb341)); replace HB := Aside0.mk (bs_ HB.out hb); clear hb hbox hg; obtain ⟨hcz_0, hcz_1, hcz_2, hcz_3, hcz_4, hcz_5, hcz_6, hcz_7, hcz_8, hcz_9, hcz_10, hfz_0, hfz_1, hfz_2, hfz_3, hfz_4, hfz_5, hfz_6, hfz_7, hfz_8, hfz_9, hfz_10⟩ := cz11_ BK341.out) | ((with_reducible refine gate_callee (f := 69) rfl ?_); refine gm_ (some 8) Try.func69 #[.agg #[.int .i64 a0_0, .int .i64 a0_1, .slice A0_2 l0_2.length c0_2, .slice A0_3 l0_3.length c0_3, .slice A0_4 l0_4.length c0_4, .slice A0_5 l0_5.length c0_5, .slice A0_6 l0_6.length c0_6, .slice A0_7 l0_7.length c0_7, .slice A0_8 l0_8.length c0_8, .slice A0_9 l0_9.length c0_9, .int .i64 a0_10]] rfl ?_; (with_reducible refine (spec_NetOk.calls k a0_0 a0_1 _ _ l0_2 _ _ l0_3 _ _ l0_4 _ _ l0_5 _ _ l0_6 _ _ l0_7 _ _ l0_8 _ _ l0_9 a0_10 _ _ ?side1 HC0_2.out ?side3 HC0_3.out ?side5 HC0_4.out ?side7 HC0_5.out ?side9 HC0_6.out ?side11 HC0_7.out ?side13 HC0_8.out ?side15 HC0_9.out A4.out).mono ?_); (case side1 => exact cb_ HR0_2.out HB.out); (case side3 => exact cb_ HR0_3.out HB.out); (case side5 => exact cb_ HR0_4.out HB.out); (case side7 => exact cb_ HR0_5.out HB.out); (case side9 => exact cb_ HR0_6.out HB.out); (case side11 => exact cb_ HR0_7.out HB.out); (case side13 => exact cb_ HR0_8.out HB.out); (case side15 => exact cb_ HR0_9.out HB.out); rintro e w_0 ⟨rfl, hb⟩; refine ⟨_, rfl, ?_⟩; replace BK341 := Aside0.mk (bk_ BK341.out hb); replace HB := Aside0.mk (bs_ HB.out hb); (try clear hb); obtain ⟨hcz_0, hcz_1, hcz_2, hcz_3, hcz_4, hcz_5, hcz_6, hcz_7, hcz_8, hcz_9, hcz_10, hfz_0, hfz_1, hfz_2, hfz_3, hfz_4, hfz_5, hfz_6, hfz_7, hfz_8, hfz_9, hfz_10⟩ := cz11_ BK341.out) | (go_at_call 101; (with_reducible refine (spec_l02Has.calls a0_0 a0_1 a1 _ _ A6.out).mono ?_); rintro e w_0 ⟨rfl, hb⟩; replace BK341 := Aside0.mk (bk_ BK341.out hb); replace HB := Aside0.mk (bs_ HB.out hb); (try clear hb)) | (go_at_call 76; (with_reducible refine (spec_l01In.calls a2 0 4 t344 _ A8.out).mono ?_); rintro e w' ⟨rfl, ⟨nd, rfl⟩⟩))
 go_ret
 exact ⟨fin_, bb_ HB.out⟩) : P := h
set_option maxHeartbeats 8000000 in
set_option maxRecDepth 100000 in
theorem spec_l17Ok.calls (k : Nat) (a0_0 : Int) (a0_1 : Int) (A0_2 : Option Addr) (c0_2 : Nat) (l0_2 : List Int) (A0_3 : Option Addr) (c0_3 : Nat) (l0_3 : List Int) (A0_4 : Option Addr) (c0_4 : Nat) (l0_4 : List Int) (A0_5 : Option Addr) (c0_5 : Nat) (l0_5 : List (List (S112))) (A0_6 : Option Addr) (c0_6 : Nat) (l0_6 : List Int) (A0_7 : Option Addr) (c0_7 : Nat) (l0_7 : List Int) (A0_8 : Option Addr) (c0_8 : Nat) (l0_8 : List (List (S112))) (A0_9 : Option Addr) (c0_9 : Nat) (l0_9 : List (List (S112))) (a0_10 : Int) (a1 : Int) (a2 : Int) (r : Bool) (w : World) (hr0_2 : Kd.C (Kd.int .i64) w A0_2 l0_2.length l0_2) (hc0_2 : l0_2.length ≤ c0_2) (hr0_3 : Kd.C (Kd.int .i64) w A0_3 l0_3.length l0_3) (hc0_3 : l0_3.length ≤ c0_3) (hr0_4 : Kd.C (Kd.int .i64) w A0_4 l0_4.length l0_4) (hc0_4 : l0_4.length ≤ c0_4) (hr0_5 : Kd.C (Kd.slice 112 k112) w A0_5 l0_5.length l0_5) (hc0_5 : l0_5.length ≤ c0_5) (hr0_6 : Kd.C (Kd.int .i64) w A0_6 l0_6.length l0_6) (hc0_6 : l0_6.length ≤ c0_6) (hr0_7 : Kd.C (Kd.int .i64) w A0_7 l0_7.length l0_7) (hc0_7 : l0_7.length ≤ c0_7) (hr0_8 : Kd.C (Kd.slice 112 k112) w A0_8 l0_8.length l0_8) (hc0_8 : l0_8.length ≤ c0_8) (hr0_9 : Kd.C (Kd.slice 112 k112) w A0_9 l0_9.length l0_9) (hc0_9 : l0_9.length ≤ c0_9) (h : spec_l17Ok.f k a0_0 a0_1 l0_2 l0_3 l0_4 l0_5 l0_6 l0_7 l0_8 l0_9 a0_10 a1 a2 = some r) :
  Calls Try.prog 75 #[.agg #[.int .i64 a0_0, .int .i64 a0_1, .slice A0_2 l0_2.length c0_2, .slice A0_3 l0_3.length c0_3, .slice A0_4 l0_4.length c0_4, .slice A0_5 l0_5.length c0_5, .slice A0_6 l0_6.length c0_6, .slice A0_7 l0_7.length c0_7, .slice A0_8 l0_8.length c0_8, .slice A0_9 l0_9.length c0_9, .int .i64 a0_10], .int .i64 a1, .int .i64 a2] w fun e w' => e = .returned (.bool r) ∧ Below w.heap.size w w' := by
 have hu37 := Try.underlying37
 have hu25 := Try.underlying25
 have HR0_2 := Aside0.mk hr0_2
 have HC0_2 := Aside0.mk hc0_2
 clear hr0_2 hc0_2
 have HR0_3 := Aside0.mk hr0_3
 have HC0_3 := Aside0.mk hc0_3
 clear hr0_3 hc0_3
 have HR0_4 := Aside0.mk hr0_4
 have HC0_4 := Aside0.mk hc0_4
 clear hr0_4 hc0_4
 have HR0_5 := Aside0.mk hr0_5
 have HC0_5 := Aside0.mk hc0_5
 clear hr0_5 hc0_5
 have HR0_6 := Aside0.mk hr0_6
 have HC0_6 := Aside0.mk hc0_6
 clear hr0_6 hc0_6
 have HR0_7 := Aside0.mk hr0_7
 have HC0_7 := Aside0.mk hc0_7
 clear hr0_7 hc0_7
 have HR0_8 := Aside0.mk hr0_8
 have HC0_8 := Aside0.mk hc0_8
 clear hr0_8 hc0_8
 have HR0_9 := Aside0.mk hr0_9
 have HC0_9 := Aside0.mk hc0_9
 clear hr0_9 hc0_9
 have HB := Aside0.mk (Below.refl w.heap.size w)
 have H : ((spec_NetOk.f k a0_0 a0_1 l0_2 l0_3 l0_4 l0_5 l0_6 l0_7 l0_8 l0_9 a0_10).bind fun t342 => (if t342 = true then ((spec_l02Has.f a0_0 a0_1 a1).bind fun t343 => (if t343 = true then ((spec_l01In.f a2 0 4).bind fun t344 => (some t344)) else (some false))) else (some false))) = some r := h
 clear h
 replace H := Option.bind_eq_some_iff.mp H
 obtain ⟨t342, A40, H⟩ := H
 try dsimp only at H
 have A4 := Aside0.mk A40
 clear A40
 by_cases c5 : t342 = true
 ·subst c5
  rw [if_pos rfl] at H
  replace H := Option.bind_eq_some_iff.mp H
  obtain ⟨t343, A60, H⟩ := H
  try dsimp only at H
  have A6 := Aside0.mk A60
  clear A60
  by_cases c7 : t343 = true
  ·subst c7
   rw [if_pos rfl] at H
   replace H := Option.bind_eq_some_iff.mp H
   obtain ⟨t344, A80, H⟩ := H
   try dsimp only at H
   have A8 := Aside0.mk A80
   clear A80
   obtain rfl := Option.some.inj H
   exact spec_l17Ok.e0
  ·replace c7 := Bool.eq_false_iff.mpr c7
   subst c7
   rw [if_neg (show ¬ (false = true) by decide)] at H
   obtain rfl := Option.some.inj H
   exact spec_l17Ok.e0
 ·replace c5 := Bool.eq_false_iff.mpr c5
  subst c5
  rw [if_neg (show ¬ (false = true) by decide)] at H
  obtain rfl := Option.some.inj H
  exact spec_l17Ok.e0

/-! ### spec_ClassOnly: function 102 -/
def spec_ClassOnly.l0 : Nat → List (S112) → Int → List (S112) → Int → Option ((List (S112)))
 | 0, _, _, _, _ => none
 | k + 1, x0, x1, x5, x6 => if x6 < (x0.length : Int) then (if 0 ≤ x6 then (if ((rd_T112 x0 x6).f2) = x1 then (if x5.length < 4398046511104 then (spec_ClassOnly.l0 k x0 x1 (x5 ++ [(⟨(rd_T112 x0 x6).f0, (rd_T112 x0 x6).f1, (rd_T112 x0 x6).f2, (rd_T112 x0 x6).f3, (rd_T112 x0 x6).f4⟩ : S112)]) (wrap64 (x6 + 1))) else (none)) else (spec_ClassOnly.l0 k x0 x1 x5 (wrap64 (x6 + 1)))) else (none)) else (some x5)
def spec_ClassOnly.f (k : Nat) (l0 : List (S112)) (a1 : Int) : Option ((List (S112))) := spec_ClassOnly.l0 k l0 a1 (([] : List (S112))) 0
theorem spec_ClassOnly.mono_l : ∀ k, (∀ y0 y1 y2 y3, LeO (spec_ClassOnly.l0 k y0 y1 y2 y3) (spec_ClassOnly.l0 (k + 1) y0 y1 y2 y3))
 | 0 => fun _ _ _ _ r h => by simp [spec_ClassOnly.l0] at h
 | k + 1 => by
  have ih0 := spec_ClassOnly.mono_l k
  ·intro y0 y1 y2 y3
   unfold spec_ClassOnly.l0
   repeat' first
   | (with_reducible exact ih0 _ _ _ _)
   | (with_reducible exact LeO.refl _)
   | (with_reducible exact LeO.none _)
   | (with_reducible refine LeO.ite ?_ ?_)
   | (with_reducible refine LeO.bind ?_ (fun _ => ?_))
   | exact ih0 _ _ _ _
   | exact LeO.none _
   | refine LeO.ite ?_ ?_
   | refine LeO.bind ?_ (fun _ => ?_)
theorem spec_ClassOnly.mono : ∀ a0 a1 k, LeO (spec_ClassOnly.f k a0 a1) (spec_ClassOnly.f (k + 1) a0 a1) := by
 intro a0 a1 k
 have ih0 := spec_ClassOnly.mono_l k
 unfold spec_ClassOnly.f
 repeat' first
   | (with_reducible exact ih0 _ _ _ _)
   | (with_reducible exact LeO.refl _)
   | (with_reducible exact LeO.none _)
   | (with_reducible refine LeO.ite ?_ ?_)
   | (with_reducible refine LeO.bind ?_ (fun _ => ?_))
   | exact ih0 _ _ _ _
   | exact LeO.none _
   | refine LeO.ite ?_ ?_
   | refine LeO.bind ?_ (fun _ => ?_)
set_option maxHeartbeats 8000000 in
set_option maxRecDepth 100000 in
theorem spec_ClassOnly.calls (k : Nat) (A0 : Option Addr) (c0 : Nat) (l0 : List (S112)) (a1 : Int) (r : List (S112)) (w : World) (hr0 : Kd.C k112 w A0 l0.length l0) (hc0 : l0.length ≤ c0) (h : spec_ClassOnly.f k l0 a1 = some r) :
  Calls Try.prog 102 #[.slice A0 l0.length c0, .int .i64 a1] w fun e w' => ∃ v0_ : Value, e = .returned (v0_) ∧ Kd.R k112 112 w' w.heap.size (fun _ => True) v0_ r ∧ Below w.heap.size w w' := by
 have hu112 := Try.underlying112
 have HR0 := Aside0.mk hr0
 have HC0 := Aside0.mk hc0
 clear hr0 hc0
 have HB := Aside0.mk (Below.refl w.heap.size w)
 have H : (spec_ClassOnly.l0 k l0 a1 (([] : List (S112))) 0) = some r := h
 clear h
 obtain ⟨y345, hy345⟩ : ∃ y_ : List (S112), y_ = (([] : List (S112))) := ⟨_, rfl⟩
 replace H : (spec_ClassOnly.l0 k l0 a1 y345 0) = some r := by first | (rw [hy345]; with_reducible exact H) | (have H2_ := (Option.bind_some _ _).symm.trans H; rw [hy345]; with_reducible exact H2_) | (have H2_ := (Option.bind_some _ _).symm.trans H; with_reducible exact H2_) | with_reducible exact H | (rw [hy345]; exact H) | exact H
 have Ny345 := Aside0.mk hy345
 clear hy345
 have H' := Aside0.mk H
 clear H
 go_enter Try.func102, Try.ntmps102
 go_wp2_with (first | ((with_reducible refine gate_dst (N := 7) rfl ?_); refine Kd.R_lit k112 _ 112 ?hg (N := 7) ?hd (xs := ([] : List (S112))) (inner := []) (ok := fun _ => True) (okp := fun _ => True) ?hr ?hp (fun _ hk => hk) trivial (Below.refl _ _) (Nat.le_refl _) (by simp) ?_; (case hd => rfl); (case hg => rfl); (case hr => first | (go_simp; done) | (go_simp; rfl)); (case hp => exact (Reps.none _ _)); intro v346 w3 ho4 hb hg_ hnew_; clear hg_ hnew_; (first | rw [← Ny345.out] at ho4 | (simp only [Int.reduceToNat] at ho4; rw [← Ny345.out] at ho4)); have HO347 := Aside0.mk (Kd.R_lower ho4 (bz_ HB.out)); replace HB := Aside0.mk (bs_ HB.out hb); clear hb ho4))
 go_loopg [5, 6] k (fun kq v5 v6 w' => ∃ (x5_1 : List (S112)) (x6_1 : Int), v6 = .int .i64 x6_1 ∧ Aside0 (spec_ClassOnly.l0 kq l0 a1 x5_1 x6_1 = some r) ∧ Aside0 (kq ≤ k) ∧ Aside0 (Kd.R k112 112 w' w.heap.size (fun _ => True) v5 x5_1) ∧ Aside0 (Below w.heap.size w w'))
 case atStart => exact ⟨(y345), (0), ef_, H', ⟨Nat.le_refl _⟩, ⟨by (with_reducible repeat (first | apply Kd.R_alloc | apply Kd.R_drewN | apply Kd.R_drew)); exact HO347.out⟩, ⟨bb_ HB.out⟩⟩
 case round =>
  clear H'
  obtain ⟨x5_1, x6_1, rfl, HA, HK1, HO_5, HB⟩ := hrel
  cases gk with
  | zero => exact absurd HA.out (by simp [spec_ClassOnly.l0])
  | succ k1 =>
   have H := HA.out
   clear HA
   simp only [spec_ClassOnly.l0] at H
   by_cases c5 : x6_1 < (l0.length : Int)
   ·rw [if_pos c5] at H
    have c5b0 : decide (x6_1 < (l0.length : Int)) = true := decide_eq_true c5
    clear c5
    by_cases c6 : 0 ≤ x6_1
    ·rw [if_pos c6] at H
     have c6b0 : decide (0 ≤ x6_1) = true := decide_eq_true c6
     clear c6
     by_cases c7 : ((rd_T112 l0 x6_1).f2) = a1
     ·rw [if_pos c7] at H
      have c7b0 : (((rd_T112 l0 x6_1).f2) == a1) = true := beq_iff_eq.mpr c7
      have c7b1 : (((rd_T112 l0 x6_1).f2) != a1) = false := bne_eq_false_iff_eq.mpr c7
      clear c7
      by_cases c8 : x5_1.length < 4398046511104
      ·rw [if_pos c8] at H
       have LMc8 := Aside0.mk c8
       clear c8
       obtain ⟨y350, hy350⟩ : ∃ y_ : List (S112), y_ = (x5_1 ++ [(⟨(rd_T112 l0 x6_1).f0, (rd_T112 l0 x6_1).f1, (rd_T112 l0 x6_1).f2, (rd_T112 l0 x6_1).f3, (rd_T112 l0 x6_1).f4⟩ : S112)]) := ⟨_, rfl⟩
       replace H : (spec_ClassOnly.l0 k1 l0 a1 y350 (wrap64 (x6_1 + 1))) = some r := by first | (rw [hy350]; with_reducible exact H) | (have H2_ := (Option.bind_some _ _).symm.trans H; rw [hy350]; with_reducible exact H2_) | (have H2_ := (Option.bind_some _ _).symm.trans H; with_reducible exact H2_) | with_reducible exact H | (rw [hy350]; exact H) | exact H
       have Ny350 := Aside0.mk hy350
       clear hy350
       have H' := Aside0.mk H
       clear H
       have p348 : 0 ≤ (x6_1 : Int) := of_decide_eq_true dg_
       have q348 : x6_1 < (l0.length : Int) := of_decide_eq_true dg_
       obtain ⟨ad348, e348, hx348_0, hx348_1, hx348_2, hx348_3, hx348_4⟩ := at_T112 HR0.out x6_1 p348 q348
       cases e348
       replace hx348_0 := (HB.out.cell (World.block_lt_of_cell? w _ hx348_0)).trans hx348_0
       replace hx348_1 := (HB.out.cell (World.block_lt_of_cell? w _ hx348_1)).trans hx348_1
       replace hx348_2 := (HB.out.cell (World.block_lt_of_cell? w _ hx348_2)).trans hx348_2
       replace hx348_3 := (HB.out.cell (World.block_lt_of_cell? w _ hx348_3)).trans hx348_3
       replace hx348_4 := (HB.out.cell (World.block_lt_of_cell? w _ hx348_4)).trans hx348_4
       replace p348 := eq_true p348
       replace q348 := eq_true q348
       have p349 : 0 ≤ (x6_1 : Int) := of_decide_eq_true dg_
       have q349 : x6_1 < (l0.length : Int) := of_decide_eq_true dg_
       obtain ⟨ad349, e349, hx349_0, hx349_1, hx349_2, hx349_3, hx349_4⟩ := at_T112 HR0.out x6_1 p349 q349
       obtain rfl : ad348 = ad349 := (by injection e349)
       replace hx349_0 := (HB.out.cell (World.block_lt_of_cell? w _ hx349_0)).trans hx349_0
       replace hx349_1 := (HB.out.cell (World.block_lt_of_cell? w _ hx349_1)).trans hx349_1
       replace hx349_2 := (HB.out.cell (World.block_lt_of_cell? w _ hx349_2)).trans hx349_2
       replace hx349_3 := (HB.out.cell (World.block_lt_of_cell? w _ hx349_3)).trans hx349_3
       replace hx349_4 := (HB.out.cell (World.block_lt_of_cell? w _ hx349_4)).trans hx349_4
       replace p349 := eq_true p349
       replace q349 := eq_true q349
       go_wp2_with (first | ((with_reducible refine gate_builtin (b := .append) (xs := #[.tmp 21, .tmp 26]) rfl ?_); at_builtin; refine Kd.R_append k112 (w0 := w) w.heap.size rfl (.tmp 21) (.tmp 26) 81 112 (.agg #[(.int .i64 0), (.int .i64 0), (.int .i64 0), (.bool false), (.bool false)]) 32 rfl Try.underlying81 info112 rfl (by decide) (by omega) u5 x5_1 (⟨(rd_T112 l0 x6_1).f0, (rd_T112 l0 x6_1).f1, (rd_T112 l0 x6_1).f2, (rd_T112 l0 x6_1).f3, (rd_T112 l0 x6_1).f4⟩ : S112) [.int .i64 ((rd_T112 l0 x6_1).f0), .int .i64 ((rd_T112 l0 x6_1).f1), .int .i64 ((rd_T112 l0 x6_1).f2), .bool ((rd_T112 l0 x6_1).f3), .bool ((rd_T112 l0 x6_1).f4)] (fun _ => True) (fun _ => False) rfl rfl ?aP (fun _ hk => hk.elim) ?aF ?aO ?aB ?aS ?aL ?_; (case aP => exact k112_mkM _ _ _ (⟨(rd_T112 l0 x6_1).f0, (rd_T112 l0 x6_1).f1, (rd_T112 l0 x6_1).f2, (rd_T112 l0 x6_1).f3, (rd_T112 l0 x6_1).f4⟩ : S112)); (case aB => exact (by repeat (first | (with_reducible first | exact HB.out | apply below_alloc | apply pw_below_drewN | apply below_drew1) | exact HB.out))); (case aF => exact (fun _ _ => trivial)); (case aO => exact (ra_ HO_5.out)); (case aS => exact (bz_ HB.out)); (case aL => have := LMc8.out; omega); intro v351 w9 ho hb hg hat; rw [← Ny350.out] at ho; have n0_ := Aside0.mk (hb); have n1_ := Aside0.mk (ho); clear HB; clear HO_5; have HB := n0_; have HO352 := n1_; clear n0_ n1_; clear ho hb hg hat))
       go_roundg k1
       case measure => have := HK1.out; omega
       case rel => exact ⟨(y350), (wrap64 (x6_1 + 1)), ef_, H', ⟨by have := HK1.out; omega⟩, ⟨by (with_reducible repeat (first | apply Kd.R_alloc | apply Kd.R_drewN | apply Kd.R_drew)); exact HO352.out⟩, ⟨bb_ HB.out⟩⟩
      ·rw [if_neg c8] at H
       exact absurd H (by simp)
     ·rw [if_neg c7] at H
      have c7b0 : (((rd_T112 l0 x6_1).f2) == a1) = false := beq_eq_false_iff_ne.mpr c7
      have c7b1 : (((rd_T112 l0 x6_1).f2) != a1) = true := bne_iff_ne.mpr c7
      have H' := Aside0.mk H
      clear H
      have p348 : 0 ≤ (x6_1 : Int) := of_decide_eq_true dg_
      have q348 : x6_1 < (l0.length : Int) := of_decide_eq_true dg_
      obtain ⟨ad348, e348, hx348_0, hx348_1, hx348_2, hx348_3, hx348_4⟩ := at_T112 HR0.out x6_1 p348 q348
      cases e348
      replace hx348_0 := (HB.out.cell (World.block_lt_of_cell? w _ hx348_0)).trans hx348_0
      replace hx348_1 := (HB.out.cell (World.block_lt_of_cell? w _ hx348_1)).trans hx348_1
      replace hx348_2 := (HB.out.cell (World.block_lt_of_cell? w _ hx348_2)).trans hx348_2
      replace hx348_3 := (HB.out.cell (World.block_lt_of_cell? w _ hx348_3)).trans hx348_3
      replace hx348_4 := (HB.out.cell (World.block_lt_of_cell? w _ hx348_4)).trans hx348_4
      replace p348 := eq_true p348
      replace q348 := eq_true q348
      go_wp2
      go_roundg k1
      case measure => have := HK1.out; omega
      case rel => exact ⟨(x5_1), (wrap64 (x6_1 + 1)), ef_, H', ⟨by have := HK1.out; omega⟩, ⟨by (with_reducible repeat (first | apply Kd.R_alloc | apply Kd.R_drewN | apply Kd.R_drew)); exact HO_5.out⟩, ⟨bb_ HB.out⟩⟩
    ·rw [if_neg c6] at H
     exact absurd H (by simp)
   ·rw [if_neg c5] at H
    have c5b0 : decide (x6_1 < (l0.length : Int)) = false := decide_eq_false c5
    clear c5
    obtain rfl := Option.some.inj H
    go_wp2
    go_ret
    exact ⟨_, fin_, by (with_reducible repeat (first | apply Kd.R_alloc | apply Kd.R_drewN | apply Kd.R_drew)); exact HO_5.out, bb_ HB.out⟩

/-! ### spec_IsWhole: function 119 -/
-- needs:
theorem fiveF_ {W : World} {g : Nat} {t : TypeId} {c0 c1 c2 c3 c4 : Value} (h : W.heap[g]? = some (.cells #[c0, c1, c2, c3, c4] t (0, 0))) (v0 v1 v2 v3 v4 : Value) : (((((W.setCell ⟨g, 0, none⟩ (v0)).setCell ⟨g, 1, none⟩ (v1)).setCell ⟨g, 2, none⟩ (v2)).setCell ⟨g, 3, none⟩ (v3)).setCell ⟨g, 4, none⟩ (v4)).heap[g]? = some (.cells #[v0, v1, v2, v3, v4] t (0, 0)) := by
 have h1 := heap_setCell_same _ g 4 _ t v4 (heap_setCell_same _ g 3 _ t v3 (heap_setCell_same _ g 2 _ t v2 (heap_setCell_same _ g 1 _ t v1 (heap_setCell_same _ g 0 _ t v0 h))))
 exact h1
theorem fiveB_ {w W : World} {g : Nat} (h : Below w.heap.size w W) (hg : w.heap.size ≤ g) (v0 v1 v2 v3 v4 : Value) : Below w.heap.size w (((((W.setCell ⟨g, 0, none⟩ (v0)).setCell ⟨g, 1, none⟩ (v1)).setCell ⟨g, 2, none⟩ (v2)).setCell ⟨g, 3, none⟩ (v3)).setCell ⟨g, 4, none⟩ (v4)) :=
 below_set (below_set (below_set (below_set (below_set h hg) hg) hg) hg) hg
theorem eqAF_ (d : Nat) (w : World) (x0 y0 : Int) (x1 y1 : Int) (x2 y2 : Int) (x3 y3 : Bool) (x4 y4 : Bool) :
  (Op.equalIn (d + 2) 112 (.agg #[.int .i64 x0, .int .i64 x1, .int .i64 x2, .bool x3, .bool x4]) (.agg #[.int .i64 y0, .int .i64 y1, .int .i64 y2, .bool y3, .bool y4])).run Try.prog w = .ok (x0 == y0 && (x1 == y1 && (x2 == y2 && (x3 == y3 && (x4 == y4))))) w := by
 refine eqA_of Try.underlying112 (by kernel_rfl) ?_
 refine eqf_cons (by rfl) (by go_simp; rfl) (by go_simp; rfl) (by go_simp) ?_
 refine eqf_cons (by rfl) (by go_simp; rfl) (by go_simp; rfl) (by go_simp) ?_
 refine eqf_cons (by rfl) (by go_simp; rfl) (by go_simp; rfl) (by go_simp) ?_
 refine eqf_cons (by rfl) (by go_simp; rfl) (by go_simp; rfl) (by go_simp) ?_
 exact eqf_last (by rfl) (by go_simp; rfl) (by go_simp; rfl) (by go_simp)
attribute [local go_sem high] eqAF_
def spec_IsWhole.l0 : Nat → List S112 → Int → Option Bool
 | 0, _, _ => none
 | k + 1, l0, x => if x < (l0.length : Int) then (if 0 ≤ x then (if (!((rd_T112 l0 x).f0 == (rd_T112 l0 0).f0) || (!((rd_T112 l0 x).f1 == (rd_T112 l0 0).f1) || (!((rd_T112 l0 x).f2 == (rd_T112 l0 0).f2) || (!((rd_T112 l0 x).f3 == (x == 0)) || (!((rd_T112 l0 x).f4 == (x == (wrap64 ((l0.length : Int) - 1))))))))) = true then (some false) else (spec_IsWhole.l0 k l0 (wrap64 (x + 1)))) else none) else (some (decide ((l0.length : Int) > 0)))
def spec_IsWhole.f (k : Nat) (l0 : List S112) : Option Bool := spec_IsWhole.l0 k l0 0
theorem spec_IsWhole.mono_l : ∀ k l x, LeO (spec_IsWhole.l0 k l x) (spec_IsWhole.l0 (k + 1) l x)
 | 0, _, _ => fun r h => by simp [spec_IsWhole.l0] at h
 | k + 1, l, x => by
  have ih := spec_IsWhole.mono_l k
  unfold spec_IsWhole.l0
  exact LeO.ite (LeO.ite (LeO.ite (LeO.refl _) (ih _ _)) (LeO.refl _)) (LeO.refl _)
theorem spec_IsWhole.mono (l0 : List S112) : ∀ k, LeO (spec_IsWhole.f k l0) (spec_IsWhole.f (k + 1) l0) := fun k => spec_IsWhole.mono_l k l0 0
theorem spec_IsWhole.e0 {P : Prop} (h : P := by
 repeat (go_quiet (fail); try go_wp2)
 go_ret
 exact ⟨fin_, bb_ HB5.out⟩) : P := h
set_option maxHeartbeats 4000000 in
set_option maxRecDepth 100000 in
theorem spec_IsWhole.calls (k : Nat) (A0 : Option Addr) (c0 : Nat) (l0 : List S112) (r : Bool) (w : World) (hr0 : Kd.C k112 w A0 l0.length l0) (hc0 : l0.length ≤ c0) (h : spec_IsWhole.f k l0 = some r) :
  Calls Try.prog 119 #[.slice A0 l0.length c0] w fun e w' => e = .returned (.bool r) ∧ Below w.heap.size w w' := by
 have hu_ := Try.underlying112
 have HR0 := Aside0.mk hr0
 have HC0 := Aside0.mk hc0
 clear hr0 hc0
 have HB := Aside0.mk (Below.refl w.heap.size w)
 have H' := Aside0.mk h
 clear h
 go_enter Try.func119, Try.ntmps119
 go_wp2
 repeat (go_quiet (fail); try go_wp2)
 go_loopg [3] k (fun kq v3 w' => ∃ (x : Int), v3 = .int .i64 x ∧ Aside0 (spec_IsWhole.l0 kq l0 x = some r) ∧ Aside0 (kq ≤ k) ∧ Aside0 (Below w.heap.size w w'))
 case atStart => exact ⟨(0), ef_, H', ⟨Nat.le_refl _⟩, ⟨bb_ HB.out⟩⟩
 case round =>
  clear H'
  obtain ⟨x, rfl, HA, HK1, HB⟩ := hrel
  cases gk with
  | zero => exact absurd HA.out (by simp [spec_IsWhole.l0])
  | succ k1 =>
   have H := HA.out
   clear HA
   simp only [spec_IsWhole.l0] at H
   by_cases q1 : x < (l0.length : Int)
   ·rw [if_pos q1] at H
    by_cases q2 : 0 ≤ x
    ·rw [if_pos q2] at H
     have q3 : 0 < (l0.length : Int) := by omega
     have q0 : 0 ≤ (0 : Int) := Int.le_refl 0
     obtain ⟨ad, e0, hx0, hx1, hx2, hx3, hx4⟩ := at_T112 HR0.out x q2 q1
     cases e0
     obtain ⟨ad2, e1, hy0, hy1, hy2, hy3, hy4⟩ := at_T112 HR0.out 0 q0 q3
     obtain rfl : ad = ad2 := by injection e1
     have ea : ad.add ((0 : Int).toNat * 5) = ad := Addr.add_zero' _
     rw [ea] at hy0 hy1 hy2 hy3 hy4
     clear ea e1 q0
     replace hx0 := (HB.out.cell (World.block_lt_of_cell? w _ hx0)).trans hx0
     replace hx1 := (HB.out.cell (World.block_lt_of_cell? w _ hx1)).trans hx1
     replace hx2 := (HB.out.cell (World.block_lt_of_cell? w _ hx2)).trans hx2
     replace hx3 := (HB.out.cell (World.block_lt_of_cell? w _ hx3)).trans hx3
     replace hx4 := (HB.out.cell (World.block_lt_of_cell? w _ hx4)).trans hx4
     have Y0 := Aside0.mk hy0
     have Y1 := Aside0.mk hy1
     have Y2 := Aside0.mk hy2
     have Y3 := Aside0.mk hy3
     have Y4 := Aside0.mk hy4
     clear hy0 hy1 hy2 hy3 hy4
     have q1b : decide (x < (l0.length : Int)) = true := decide_eq_true q1
     have q2b : decide (0 ≤ x) = true := decide_eq_true q2
     have q3b : decide (0 < (l0.length : Int)) = true := decide_eq_true q3
     have q3c : (0 < l0.length) = True := eq_true (by omega)
     replace q1 := eq_true q1
     replace q2 := eq_true q2
     replace q3 := eq_true q3
     by_cases c6 : (!((rd_T112 l0 x).f0 == (rd_T112 l0 0).f0) || (!((rd_T112 l0 x).f1 == (rd_T112 l0 0).f1) || (!((rd_T112 l0 x).f2 == (rd_T112 l0 0).f2) || (!((rd_T112 l0 x).f3 == (x == 0)) || (!((rd_T112 l0 x).f4 == (x == (wrap64 ((l0.length : Int) - 1))))))))) = true
     ·rw [if_pos c6] at H
      obtain rfl := Option.some.inj H
      clear H
      have C6 := Aside0.mk c6
      clear c6
      go_wp2_with (first | ((with_reducible refine gate_dst (N := 4) rfl ?_); refine box_event ?hg (N := 4) ?hd (cs := #[.int .i64 0, .int .i64 0, .int .i64 0, .bool false, .bool false]) (t := 112) ?hr ?_; (case hd => rfl); (case hg => rfl); (case hr => first | (go_simp; done) | (go_simp; rfl)); intro gb hg w7 hbox hb; have BK := Aside0.mk hbox; have GE := Aside0.mk (show w.heap.size ≤ gb by rw [hg]; exact below_size HB.out); have HBX := Aside0.mk (below_step HB.out hb); clear HB; have HB := HBX; clear HBX; clear hb hbox hg; have hz0 := (blk_cell BK.out 0).trans rfl; have hz1 := (blk_cell BK.out 1).trans rfl; have hz2 := (blk_cell BK.out 2).trans rfl; have hz3 := (blk_cell BK.out 3).trans rfl; have hz4 := (blk_cell BK.out 4).trans rfl; have hf0 := blk_frozen BK.out 0; have hf1 := blk_frozen BK.out 1; have hf2 := blk_frozen BK.out 2; have hf3 := blk_frozen BK.out 3; have hf4 := blk_frozen BK.out 4))
      have BK5 := Aside0.mk (fiveF_ BK.out (.int .i64 (rd_T112 l0 x).f0) (.int .i64 (rd_T112 l0 x).f1) (.int .i64 (rd_T112 l0 x).f2) (.bool (rd_T112 l0 x).f3) (.bool (rd_T112 l0 x).f4))
      have HB5 := Aside0.mk (fiveB_ HB.out GE.out (.int .i64 (rd_T112 l0 x).f0) (.int .i64 (rd_T112 l0 x).f1) (.int .i64 (rd_T112 l0 x).f2) (.bool (rd_T112 l0 x).f3) (.bool (rd_T112 l0 x).f4))
      generalize hW : (((((w7.setCell ⟨gb, 0, none⟩ (.int .i64 (rd_T112 l0 x).f0)).setCell ⟨gb, 1, none⟩ (.int .i64 (rd_T112 l0 x).f1)).setCell ⟨gb, 2, none⟩ (.int .i64 (rd_T112 l0 x).f2)).setCell ⟨gb, 3, none⟩ (.bool (rd_T112 l0 x).f3)).setCell ⟨gb, 4, none⟩ (.bool (rd_T112 l0 x).f4)) = W at BK5 HB5 ⊢
      clear hW HB BK GE hx0 hx1 hx2 hx3 hx4 hz0 hz1 hz2 hz3 hz4 hf0 hf1 hf2 hf3 hf4
      have hz0 := (blk_cell BK5.out 0).trans rfl
      have hz1 := (blk_cell BK5.out 1).trans rfl
      have hz2 := (blk_cell BK5.out 2).trans rfl
      have hz3 := (blk_cell BK5.out 3).trans rfl
      have hz4 := (blk_cell BK5.out 4).trans rfl
      have hy0 := (HB5.out.cell (World.block_lt_of_cell? w _ Y0.out)).trans Y0.out
      have hy1 := (HB5.out.cell (World.block_lt_of_cell? w _ Y1.out)).trans Y1.out
      have hy2 := (HB5.out.cell (World.block_lt_of_cell? w _ Y2.out)).trans Y2.out
      have hy3 := (HB5.out.cell (World.block_lt_of_cell? w _ Y3.out)).trans Y3.out
      have hy4 := (HB5.out.cell (World.block_lt_of_cell? w _ Y4.out)).trans Y4.out
      by_cases d0 : (rd_T112 l0 x).f0 = (rd_T112 l0 0).f0
      rotate_left
      ·clear C6
       have p0a : ((rd_T112 l0 x).f0 == (rd_T112 l0 0).f0) = false := beq_eq_false_iff_ne.mpr d0
       have p0b : ((rd_T112 l0 x).f0 != (rd_T112 l0 0).f0) = true := bne_iff_ne.mpr d0
       clear d0
       exact spec_IsWhole.e0
      have p0a : ((rd_T112 l0 x).f0 == (rd_T112 l0 0).f0) = true := beq_iff_eq.mpr d0
      have p0b : ((rd_T112 l0 x).f0 != (rd_T112 l0 0).f0) = false := bne_eq_false_iff_eq.mpr d0
      by_cases d1 : (rd_T112 l0 x).f1 = (rd_T112 l0 0).f1
      rotate_left
      ·clear C6
       have p1a : ((rd_T112 l0 x).f1 == (rd_T112 l0 0).f1) = false := beq_eq_false_iff_ne.mpr d1
       have p1b : ((rd_T112 l0 x).f1 != (rd_T112 l0 0).f1) = true := bne_iff_ne.mpr d1
       clear d1
       exact spec_IsWhole.e0
      have p1a : ((rd_T112 l0 x).f1 == (rd_T112 l0 0).f1) = true := beq_iff_eq.mpr d1
      have p1b : ((rd_T112 l0 x).f1 != (rd_T112 l0 0).f1) = false := bne_eq_false_iff_eq.mpr d1
      by_cases d2 : (rd_T112 l0 x).f2 = (rd_T112 l0 0).f2
      rotate_left
      ·clear C6
       have p2a : ((rd_T112 l0 x).f2 == (rd_T112 l0 0).f2) = false := beq_eq_false_iff_ne.mpr d2
       have p2b : ((rd_T112 l0 x).f2 != (rd_T112 l0 0).f2) = true := bne_iff_ne.mpr d2
       clear d2
       exact spec_IsWhole.e0
      have p2a : ((rd_T112 l0 x).f2 == (rd_T112 l0 0).f2) = true := beq_iff_eq.mpr d2
      have p2b : ((rd_T112 l0 x).f2 != (rd_T112 l0 0).f2) = false := bne_eq_false_iff_eq.mpr d2
      by_cases d3 : (rd_T112 l0 x).f3 = (x == 0)
      rotate_left
      ·clear C6
       have p3a : ((rd_T112 l0 x).f3 == (x == 0)) = false := beq_eq_false_iff_ne.mpr d3
       have p3b : ((rd_T112 l0 x).f3 != (x == 0)) = true := bne_iff_ne.mpr d3
       clear d3
       exact spec_IsWhole.e0
      have p3a : ((rd_T112 l0 x).f3 == (x == 0)) = true := beq_iff_eq.mpr d3
      have p3b : ((rd_T112 l0 x).f3 != (x == 0)) = false := bne_eq_false_iff_eq.mpr d3
      by_cases d4 : (rd_T112 l0 x).f4 = (x == (wrap64 ((l0.length : Int) - 1)))
      rotate_left
      ·clear C6
       have p4a : ((rd_T112 l0 x).f4 == (x == (wrap64 ((l0.length : Int) - 1)))) = false := beq_eq_false_iff_ne.mpr d4
       have p4b : ((rd_T112 l0 x).f4 != (x == (wrap64 ((l0.length : Int) - 1)))) = true := bne_iff_ne.mpr d4
       clear d4
       exact spec_IsWhole.e0
      have p4a : ((rd_T112 l0 x).f4 == (x == (wrap64 ((l0.length : Int) - 1)))) = true := beq_iff_eq.mpr d4
      have p4b : ((rd_T112 l0 x).f4 != (x == (wrap64 ((l0.length : Int) - 1)))) = false := bne_eq_false_iff_eq.mpr d4
      exact absurd C6.out (by simp [p0a, p1a, p2a, p3a, p4a])
     ·rw [if_neg c6] at H
      have H' := Aside0.mk H
      clear H
      have C6 := Aside0.mk (eq_false_of_ne_true c6)
      clear c6
      go_wp2_with (first | ((with_reducible refine gate_dst (N := 4) rfl ?_); refine box_event ?hg (N := 4) ?hd (cs := #[.int .i64 0, .int .i64 0, .int .i64 0, .bool false, .bool false]) (t := 112) ?hr ?_; (case hd => rfl); (case hg => rfl); (case hr => first | (go_simp; done) | (go_simp; rfl)); intro gb hg w7 hbox hb; have BK := Aside0.mk hbox; have GE := Aside0.mk (show w.heap.size ≤ gb by rw [hg]; exact below_size HB.out); have HBX := Aside0.mk (below_step HB.out hb); clear HB; have HB := HBX; clear HBX; clear hb hbox hg; have hz0 := (blk_cell BK.out 0).trans rfl; have hz1 := (blk_cell BK.out 1).trans rfl; have hz2 := (blk_cell BK.out 2).trans rfl; have hz3 := (blk_cell BK.out 3).trans rfl; have hz4 := (blk_cell BK.out 4).trans rfl; have hf0 := blk_frozen BK.out 0; have hf1 := blk_frozen BK.out 1; have hf2 := blk_frozen BK.out 2; have hf3 := blk_frozen BK.out 3; have hf4 := blk_frozen BK.out 4))
      have BK5 := Aside0.mk (fiveF_ BK.out (.int .i64 (rd_T112 l0 x).f0) (.int .i64 (rd_T112 l0 x).f1) (.int .i64 (rd_T112 l0 x).f2) (.bool (rd_T112 l0 x).f3) (.bool (rd_T112 l0 x).f4))
      have HB5 := Aside0.mk (fiveB_ HB.out GE.out (.int .i64 (rd_T112 l0 x).f0) (.int .i64 (rd_T112 l0 x).f1) (.int .i64 (rd_T112 l0 x).f2) (.bool (rd_T112 l0 x).f3) (.bool (rd_T112 l0 x).f4))
      generalize hW : (((((w7.setCell ⟨gb, 0, none⟩ (.int .i64 (rd_T112 l0 x).f0)).setCell ⟨gb, 1, none⟩ (.int .i64 (rd_T112 l0 x).f1)).setCell ⟨gb, 2, none⟩ (.int .i64 (rd_T112 l0 x).f2)).setCell ⟨gb, 3, none⟩ (.bool (rd_T112 l0 x).f3)).setCell ⟨gb, 4, none⟩ (.bool (rd_T112 l0 x).f4)) = W at BK5 HB5 ⊢
      clear hW HB BK GE hx0 hx1 hx2 hx3 hx4 hz0 hz1 hz2 hz3 hz4 hf0 hf1 hf2 hf3 hf4
      have hz0 := (blk_cell BK5.out 0).trans rfl
      have hz1 := (blk_cell BK5.out 1).trans rfl
      have hz2 := (blk_cell BK5.out 2).trans rfl
      have hz3 := (blk_cell BK5.out 3).trans rfl
      have hz4 := (blk_cell BK5.out 4).trans rfl
      have hy0 := (HB5.out.cell (World.block_lt_of_cell? w _ Y0.out)).trans Y0.out
      have hy1 := (HB5.out.cell (World.block_lt_of_cell? w _ Y1.out)).trans Y1.out
      have hy2 := (HB5.out.cell (World.block_lt_of_cell? w _ Y2.out)).trans Y2.out
      have hy3 := (HB5.out.cell (World.block_lt_of_cell? w _ Y3.out)).trans Y3.out
      have hy4 := (HB5.out.cell (World.block_lt_of_cell? w _ Y4.out)).trans Y4.out
      have c6 := C6.out
      have p0a : ((rd_T112 l0 x).f0 == (rd_T112 l0 0).f0) = true := by
       cases h : ((rd_T112 l0 x).f0 == (rd_T112 l0 0).f0) with
       | true => rfl
       | false => exact absurd c6 (by simp [h])
      have p0b : ((rd_T112 l0 x).f0 != (rd_T112 l0 0).f0) = false := by rw [bne, p0a]; rfl
      have p1a : ((rd_T112 l0 x).f1 == (rd_T112 l0 0).f1) = true := by
       cases h : ((rd_T112 l0 x).f1 == (rd_T112 l0 0).f1) with
       | true => rfl
       | false => exact absurd c6 (by simp [h])
      have p1b : ((rd_T112 l0 x).f1 != (rd_T112 l0 0).f1) = false := by rw [bne, p1a]; rfl
      have p2a : ((rd_T112 l0 x).f2 == (rd_T112 l0 0).f2) = true := by
       cases h : ((rd_T112 l0 x).f2 == (rd_T112 l0 0).f2) with
       | true => rfl
       | false => exact absurd c6 (by simp [h])
      have p2b : ((rd_T112 l0 x).f2 != (rd_T112 l0 0).f2) = false := by rw [bne, p2a]; rfl
      have p3a : ((rd_T112 l0 x).f3 == (x == 0)) = true := by
       cases h : ((rd_T112 l0 x).f3 == (x == 0)) with
       | true => rfl
       | false => exact absurd c6 (by simp [h])
      have p3b : ((rd_T112 l0 x).f3 != (x == 0)) = false := by rw [bne, p3a]; rfl
      have p4a : ((rd_T112 l0 x).f4 == (x == (wrap64 ((l0.length : Int) - 1)))) = true := by
       cases h : ((rd_T112 l0 x).f4 == (x == (wrap64 ((l0.length : Int) - 1)))) with
       | true => rfl
       | false => exact absurd c6 (by simp [h])
      have p4b : ((rd_T112 l0 x).f4 != (x == (wrap64 ((l0.length : Int) - 1)))) = false := by rw [bne, p4a]; rfl
      clear c6 C6
      repeat (go_quiet (fail); try go_wp2)
      go_roundg k1
      case measure => have := HK1.out; omega
      case rel => exact ⟨(wrap64 (x + 1)), ef_, H', ⟨by have := HK1.out; omega⟩, ⟨bb_ HB5.out⟩⟩
    ·rw [if_neg q2] at H
     exact absurd H (by simp)
   ·rw [if_neg q1] at H
    have q1b : decide (x < (l0.length : Int)) = false := decide_eq_false q1
    clear q1
    obtain rfl := Option.some.inj H
    go_wp2
    repeat (go_quiet (fail); try go_wp2)
    go_ret
    exact ⟨fin_, bb_ HB.out⟩

/-! ### spec_WholePackets: function 103 -/
def spec_WholePackets.l0 : Nat → List (S112) → List Int → Int → Int → Option (List Int × Bool)
 | 0, _, _, _, _ => none
 | k + 1, x0, x4, x5, x6 => if x6 < (x0.length : Int) then (if 0 ≤ x5 then (if x5 ≤ (wrap64 (x6 + 1)) then (if (wrap64 (x6 + 1)) ≤ (x0.length : Int) then ((spec_IsWhole.f k ((x0.take ((wrap64 (x6 + 1)) : Int).toNat).drop (x5 : Int).toNat)).bind fun t360 => (if t360 = true then (if 0 ≤ x6 then (if x4.length < 17592186044416 then (spec_WholePackets.l0 k x0 (x4 ++ [(rd_T112 x0 x6).f0]) (wrap64 (x6 + 1)) (wrap64 (x6 + 1))) else (none)) else (none)) else (spec_WholePackets.l0 k x0 x4 x5 (wrap64 (x6 + 1))))) else (none)) else (none)) else (none)) else (if x5 < (x0.length : Int) then (some ((([] : List Int)), false)) else (some (x4, true)))
def spec_WholePackets.f (k : Nat) (l0 : List (S112)) : Option (List Int × Bool) := spec_WholePackets.l0 k l0 (([] : List Int)) 0 0
theorem spec_WholePackets.mono_l : ∀ k, (∀ y0 y1 y2 y3, LeO (spec_WholePackets.l0 k y0 y1 y2 y3) (spec_WholePackets.l0 (k + 1) y0 y1 y2 y3))
 | 0 => fun _ _ _ _ r h => by simp [spec_WholePackets.l0] at h
 | k + 1 => by
  have ih0 := spec_WholePackets.mono_l k
  ·intro y0 y1 y2 y3
   unfold spec_WholePackets.l0
   repeat' first
   | (with_reducible exact ih0 _ _ _ _)
   | (with_reducible exact spec_IsWhole.mono _ _)
   | (with_reducible exact LeO.refl _)
   | (with_reducible exact LeO.none _)
   | (with_reducible refine LeO.ite ?_ ?_)
   | (with_reducible refine LeO.bind ?_ (fun _ => ?_))
   | exact ih0 _ _ _ _
   | exact spec_IsWhole.mono _ _
   | exact LeO.none _
   | refine LeO.ite ?_ ?_
   | refine LeO.bind ?_ (fun _ => ?_)
theorem spec_WholePackets.mono : ∀ a0 k, LeO (spec_WholePackets.f k a0) (spec_WholePackets.f (k + 1) a0) := by
 intro a0 k
 have ih0 := spec_WholePackets.mono_l k
 unfold spec_WholePackets.f
 repeat' first
   | (with_reducible exact ih0 _ _ _ _)
   | (with_reducible exact spec_IsWhole.mono _ _)
   | (with_reducible exact LeO.refl _)
   | (with_reducible exact LeO.none _)
   | (with_reducible refine LeO.ite ?_ ?_)
   | (with_reducible refine LeO.bind ?_ (fun _ => ?_))
   | exact ih0 _ _ _ _
   | exact spec_IsWhole.mono _ _
   | exact LeO.none _
   | refine LeO.ite ?_ ?_
   | refine LeO.bind ?_ (fun _ => ?_)
set_option maxHeartbeats 8000000 in
set_option maxRecDepth 100000 in
theorem spec_WholePackets.calls (k : Nat) (A0 : Option Addr) (c0 : Nat) (l0 : List (S112)) (r1 : List Int) (r2 : Bool) (w : World) (hr0 : Kd.C k112 w A0 l0.length l0) (hc0 : l0.length ≤ c0) (h : spec_WholePackets.f k l0 = some (r1, r2)) :
  Calls Try.prog 103 #[.slice A0 l0.length c0] w fun e w' => ∃ v0_ : Value, e = .returned (.tuple #[v0_, .bool r2]) ∧ Kd.R (Kd.int .i64) 3 w' w.heap.size (fun _ => True) v0_ r1 ∧ Below w.heap.size w w' := by
 have HR0 := Aside0.mk hr0
 have HC0 := Aside0.mk hc0
 clear hr0 hc0
 have HB := Aside0.mk (Below.refl w.heap.size w)
 have H : (spec_WholePackets.l0 k l0 (([] : List Int)) 0 0) = some (r1, r2) := h
 clear h
 obtain ⟨y353, hy353⟩ : ∃ y_ : List Int, y_ = (([] : List Int)) := ⟨_, rfl⟩
 replace H : (spec_WholePackets.l0 k l0 y353 0 0) = some (r1, r2) := by first | (rw [hy353]; with_reducible exact H) | (have H2_ := (Option.bind_some _ _).symm.trans H; rw [hy353]; with_reducible exact H2_) | (have H2_ := (Option.bind_some _ _).symm.trans H; with_reducible exact H2_) | with_reducible exact H | (rw [hy353]; exact H) | exact H
 have Ny353 := Aside0.mk hy353
 clear hy353
 have H' := Aside0.mk H
 clear H
 go_enter Try.func103, Try.ntmps103
 go_wp2_with (first | ((with_reducible refine gate_dst (N := 7) rfl ?_); refine Kd.R_lit (Kd.int .i64) _ 3 ?hg (N := 7) ?hd (xs := ([] : List Int)) (inner := []) (ok := fun _ => True) (okp := fun _ => True) ?hr ?hp (fun _ hk => hk) trivial (Below.refl _ _) (Nat.le_refl _) (by simp) ?_; (case hd => rfl); (case hg => rfl); (case hr => first | (go_simp; done) | (go_simp; rfl)); (case hp => exact (Reps.none _ _)); intro v354 w2 ho3 hb hg_ hnew_; clear hg_ hnew_; (first | rw [← Ny353.out] at ho3 | (simp only [Int.reduceToNat] at ho3; rw [← Ny353.out] at ho3)); have HO355 := Aside0.mk (Kd.R_lower ho3 (bz_ HB.out)); replace HB := Aside0.mk (bs_ HB.out hb); clear hb ho3))
 go_loopg [4, 5, 6] k (fun kq v4 v5 v6 w' => ∃ (x4_1 : List Int) (x5_1 : Int) (x6_1 : Int), v5 = .int .i64 x5_1 ∧ v6 = .int .i64 x6_1 ∧ Aside0 (spec_WholePackets.l0 kq l0 x4_1 x5_1 x6_1 = some (r1, r2)) ∧ Aside0 (kq ≤ k) ∧ Aside0 (Kd.R (Kd.int .i64) 3 w' w.heap.size (fun _ => True) v4 x4_1) ∧ Aside0 (Below w.heap.size w w'))
 case atStart => exact ⟨(y353), (0), (0), ef_, ef_, H', ⟨Nat.le_refl _⟩, ⟨by (with_reducible repeat (first | apply Kd.R_alloc | apply Kd.R_drewN | apply Kd.R_drew)); exact HO355.out⟩, ⟨bb_ HB.out⟩⟩
 case round =>
  clear H'
  obtain ⟨x4_1, x5_1, x6_1, rfl, rfl, HA, HK1, HO_4, HB⟩ := hrel
  cases gk with
  | zero => exact absurd HA.out (by simp [spec_WholePackets.l0])
  | succ k1 =>
   have H := HA.out
   clear HA
   simp only [spec_WholePackets.l0] at H
   by_cases c4 : x6_1 < (l0.length : Int)
   ·rw [if_pos c4] at H
    have c4b0 : decide (x6_1 < (l0.length : Int)) = true := decide_eq_true c4
    clear c4
    by_cases c5 : 0 ≤ x5_1
    ·rw [if_pos c5] at H
     have c5b0 := eq_true c5
     have c5b1 : decide (0 ≤ x5_1) = true := decide_eq_true c5
     clear c5
     by_cases c6 : x5_1 ≤ (wrap64 (x6_1 + 1))
     ·rw [if_pos c6] at H
      have c6b0 := eq_true c6
      have c6b1 : decide (x5_1 ≤ (wrap64 (x6_1 + 1))) = true := decide_eq_true c6
      by_cases c7 : (wrap64 (x6_1 + 1)) ≤ (l0.length : Int)
      ·rw [if_pos c7] at H
       have c7b0 := eq_true c7
       have c7b1 : decide ((wrap64 (x6_1 + 1)) ≤ (l0.length : Int)) = true := decide_eq_true c7
       obtain ⟨y356, hy356⟩ : ∃ y_ : List (S112), y_ = ((l0.take ((wrap64 (x6_1 + 1)) : Int).toNat).drop (x5_1 : Int).toNat) := ⟨_, rfl⟩
       replace H : ((spec_IsWhole.f k1 y356).bind fun t360 => (if t360 = true then (if 0 ≤ x6_1 then (if x4_1.length < 17592186044416 then (spec_WholePackets.l0 k1 l0 (x4_1 ++ [(rd_T112 l0 x6_1).f0]) (wrap64 (x6_1 + 1)) (wrap64 (x6_1 + 1))) else (none)) else (none)) else (spec_WholePackets.l0 k1 l0 x4_1 x5_1 (wrap64 (x6_1 + 1))))) = some (r1, r2) := by first | (rw [hy356]; with_reducible exact H) | (have H2_ := (Option.bind_some _ _).symm.trans H; rw [hy356]; with_reducible exact H2_) | (have H2_ := (Option.bind_some _ _).symm.trans H; with_reducible exact H2_) | with_reducible exact H | (rw [hy356]; exact H) | exact H
       have Ny356 := Aside0.mk hy356
       clear hy356
       replace H := Option.bind_eq_some_iff.mp H
       obtain ⟨t360, A80, H⟩ := H
       try dsimp only at H
       have A8 := Aside0.mk A80
       clear A80
       by_cases c9 : t360 = true
       ·subst c9
        rw [if_pos rfl] at H
        by_cases c10 : 0 ≤ x6_1
        ·rw [if_pos c10] at H
         have c10b0 : decide (0 ≤ x6_1) = true := decide_eq_true c10
         clear c10
         by_cases c11 : x4_1.length < 17592186044416
         ·rw [if_pos c11] at H
          have LMc11 := Aside0.mk c11
          clear c11
          obtain ⟨y362, hy362⟩ : ∃ y_ : List Int, y_ = (x4_1 ++ [(rd_T112 l0 x6_1).f0]) := ⟨_, rfl⟩
          replace H : (spec_WholePackets.l0 k1 l0 y362 (wrap64 (x6_1 + 1)) (wrap64 (x6_1 + 1))) = some (r1, r2) := by first | (rw [hy362]; with_reducible exact H) | (have H2_ := (Option.bind_some _ _).symm.trans H; rw [hy362]; with_reducible exact H2_) | (have H2_ := (Option.bind_some _ _).symm.trans H; with_reducible exact H2_) | with_reducible exact H | (rw [hy362]; exact H) | exact H
          have Ny362 := Aside0.mk hy362
          clear hy362
          have H' := Aside0.mk H
          clear H
          have q12 : ((wrap64 (x6_1 + 1)) : Int) ≤ ((l0.length : Int) : Int) := of_decide_eq_true dg_
          obtain ⟨i012, hi012, _, hsz12, _⟩ := info_parts info112
          have hroom12 : l0.length ≤ c0 := HC0.out
          have hC12 : Kd.C k112 _ A0 l0.length l0 := HR0.out
          have ql12 : (x5_1 : Int) ≤ ((wrap64 (x6_1 + 1)) : Int) := of_decide_eq_true dg_
          have q012 : (0 : Int) ≤ (x5_1 : Int) := of_decide_eq_true dg_
          have hcut12 := cut_mid (P := Try.prog) 81 112 .i64 .i64 Try.underlying81 hi012 5 hsz12 A0 l0.length c0 x5_1 (wrap64 (x6_1 + 1)) q012 ql12 q12 hroom12
          have hr12 := Kd.C_mid (lo := (x5_1 : Int).toNat) (hi := ((wrap64 (x6_1 + 1)) : Int).toNat) (c := c0) hC12 (by omega) (by omega) hroom12
          obtain ⟨A12, hA12⟩ : ∃ A1, A1 = (if c0 = (x5_1 : Int).toNat then A0 else (A0 : Option Addr).map (·.add ((x5_1 : Int).toNat * 5))) := ⟨_, rfl⟩
          obtain ⟨c12, hc12⟩ : ∃ c1, c1 = c0 - (x5_1 : Int).toNat := ⟨_, rfl⟩
          have hy12 : y356.length = ((wrap64 (x6_1 + 1)) : Int).toNat - (x5_1 : Int).toNat := (by rw [Ny356.out, List.length_drop, List.length_take] <;> omega)
          rw [show ((l0).take ((wrap64 (x6_1 + 1)) : Int).toNat).drop (x5_1 : Int).toNat = y356 from Ny356.out.symm] at hr12
          replace hr12 : Kd.C k112 _ A12 y356.length y356 := (by rw [hA12]; exact hr12)
          rw [← hy12, ← hA12, ← hc12] at hcut12
          have HR359 := Aside0.mk hr12
          have HC359 := Aside0.mk (show y356.length ≤ c12 from by rw [hy12, hc12]; exact Nat.sub_le_sub_right (Nat.le_trans (by omega) hroom12) _)
          clear hr12 hC12 hroom12 hi012 hsz12 hc12
          have KY12 := Aside0.mk hy12
          have KA12 := Aside0.mk hA12
          clear hy12 hA12
          replace q12 := eq_true q12
          go_wp2_with (first | ((with_reducible refine gate_callee (f := 119) rfl ?_); refine gm_ (some 19) Try.func119 #[.slice A12 y356.length c12] rfl ?_; (with_reducible refine (spec_IsWhole.calls k1 _ _ y356 true _ ?side1 HC359.out A8.out).mono ?_); (case side1 => exact cb_ HR359.out HB.out); rintro e w13 ⟨rfl, hb⟩; refine ⟨_, rfl, ?_⟩; replace HO_4 := Aside0.mk (Kd.R_below (ra_ HO_4.out) hb); replace HB := Aside0.mk (bs_ HB.out hb); (try clear hb); have p361 : 0 ≤ (x6_1 : Int) := of_decide_eq_true dg_; have q361 : x6_1 < (l0.length : Int) := of_decide_eq_true dg_; obtain ⟨ad361, e361, hx361_0, hx361_1, hx361_2, hx361_3, hx361_4⟩ := at_T112 HR0.out x6_1 p361 q361; cases e361; replace hx361_0 := (HB.out.cell (World.block_lt_of_cell? w _ hx361_0)).trans hx361_0; replace hx361_1 := (HB.out.cell (World.block_lt_of_cell? w _ hx361_1)).trans hx361_1; replace hx361_2 := (HB.out.cell (World.block_lt_of_cell? w _ hx361_2)).trans hx361_2; replace hx361_3 := (HB.out.cell (World.block_lt_of_cell? w _ hx361_3)).trans hx361_3; replace hx361_4 := (HB.out.cell (World.block_lt_of_cell? w _ hx361_4)).trans hx361_4; replace p361 := eq_true p361; replace q361 := eq_true q361) | ((with_reducible refine gate_builtin (b := .append) (xs := #[.tmp 20, .tmp 26]) rfl ?_); at_builtin; refine Kd.R_append (Kd.int .i64) (w0 := w) w.heap.size rfl (.tmp 20) (.tmp 26) 26 3 (.int .i64 0) 8 rfl Try.underlying26 info3 rfl (by decide) (by omega) u4 x4_1 ((rd_T112 l0 x6_1).f0) [.int .i64 ((rd_T112 l0 x6_1).f0)] (fun _ => True) (fun _ => False) rfl rfl ?aP (fun _ hk => hk.elim) ?aF ?aO ?aB ?aS ?aL ?_; (case aP => exact rfl); (case aB => exact (by repeat (first | (with_reducible first | exact HB.out | apply below_alloc | apply pw_below_drewN | apply below_drew1) | exact HB.out))); (case aF => exact (fun _ _ => trivial)); (case aO => exact (ra_ HO_4.out)); (case aS => exact (bz_ HB.out)); (case aL => have := LMc11.out; omega); intro v363 w14 ho hb hg hat; rw [← Ny362.out] at ho; have n0_ := Aside0.mk (hb); have n1_ := Aside0.mk (ho); clear HB; clear HO_4; have HB := n0_; have HO364 := n1_; clear n0_ n1_; clear ho hb hg hat))
          go_roundg k1
          case measure => have := HK1.out; omega
          case rel => exact ⟨(y362), (wrap64 (x6_1 + 1)), (wrap64 (x6_1 + 1)), ef_, ef_, H', ⟨by have := HK1.out; omega⟩, ⟨by (with_reducible repeat (first | apply Kd.R_alloc | apply Kd.R_drewN | apply Kd.R_drew)); exact HO364.out⟩, ⟨bb_ HB.out⟩⟩
         ·rw [if_neg c11] at H
          exact absurd H (by simp)
        ·rw [if_neg c10] at H
         exact absurd H (by simp)
       ·replace c9 := Bool.eq_false_iff.mpr c9
        subst c9
        rw [if_neg (show ¬ (false = true) by decide)] at H
        have H' := Aside0.mk H
        clear H
        have q15 : ((wrap64 (x6_1 + 1)) : Int) ≤ ((l0.length : Int) : Int) := of_decide_eq_true dg_
        obtain ⟨i015, hi015, _, hsz15, _⟩ := info_parts info112
        have hroom15 : l0.length ≤ c0 := HC0.out
        have hC15 : Kd.C k112 _ A0 l0.length l0 := HR0.out
        have ql15 : (x5_1 : Int) ≤ ((wrap64 (x6_1 + 1)) : Int) := of_decide_eq_true dg_
        have q015 : (0 : Int) ≤ (x5_1 : Int) := of_decide_eq_true dg_
        have hcut15 := cut_mid (P := Try.prog) 81 112 .i64 .i64 Try.underlying81 hi015 5 hsz15 A0 l0.length c0 x5_1 (wrap64 (x6_1 + 1)) q015 ql15 q15 hroom15
        have hr15 := Kd.C_mid (lo := (x5_1 : Int).toNat) (hi := ((wrap64 (x6_1 + 1)) : Int).toNat) (c := c0) hC15 (by omega) (by omega) hroom15
        obtain ⟨A15, hA15⟩ : ∃ A1, A1 = (if c0 = (x5_1 : Int).toNat then A0 else (A0 : Option Addr).map (·.add ((x5_1 : Int).toNat * 5))) := ⟨_, rfl⟩
        obtain ⟨c15, hc15⟩ : ∃ c1, c1 = c0 - (x5_1 : Int).toNat := ⟨_, rfl⟩
        have hy15 : y356.length = ((wrap64 (x6_1 + 1)) : Int).toNat - (x5_1 : Int).toNat := (by rw [Ny356.out, List.length_drop, List.length_take] <;> omega)
        rw [show ((l0).take ((wrap64 (x6_1 + 1)) : Int).toNat).drop (x5_1 : Int).toNat = y356 from Ny356.out.symm] at hr15
        replace hr15 : Kd.C k112 _ A15 y356.length y356 := (by rw [hA15]; exact hr15)
        rw [← hy15, ← hA15, ← hc15] at hcut15
        have HR359 := Aside0.mk hr15
        have HC359 := Aside0.mk (show y356.length ≤ c15 from by rw [hy15, hc15]; exact Nat.sub_le_sub_right (Nat.le_trans (by omega) hroom15) _)
        clear hr15 hC15 hroom15 hi015 hsz15 hc15
        have KY15 := Aside0.mk hy15
        have KA15 := Aside0.mk hA15
        clear hy15 hA15
        replace q15 := eq_true q15
        go_wp2_with (first | ((with_reducible refine gate_callee (f := 119) rfl ?_); refine gm_ (some 19) Try.func119 #[.slice A15 y356.length c15] rfl ?_; (with_reducible refine (spec_IsWhole.calls k1 _ _ y356 false _ ?side1 HC359.out A8.out).mono ?_); (case side1 => exact cb_ HR359.out HB.out); rintro e w16 ⟨rfl, hb⟩; refine ⟨_, rfl, ?_⟩; replace HO_4 := Aside0.mk (Kd.R_below (ra_ HO_4.out) hb); replace HB := Aside0.mk (bs_ HB.out hb); (try clear hb)))
        go_roundg k1
        case measure => have := HK1.out; omega
        case rel => exact ⟨(x4_1), (x5_1), (wrap64 (x6_1 + 1)), ef_, ef_, H', ⟨by have := HK1.out; omega⟩, ⟨by (with_reducible repeat (first | apply Kd.R_alloc | apply Kd.R_drewN | apply Kd.R_drew)); exact HO_4.out⟩, ⟨bb_ HB.out⟩⟩
      ·rw [if_neg c7] at H
       exact absurd H (by simp)
     ·rw [if_neg c6] at H
      exact absurd H (by simp)
    ·rw [if_neg c5] at H
     exact absurd H (by simp)
   ·rw [if_neg c4] at H
    have c4b0 : decide (x6_1 < (l0.length : Int)) = false := decide_eq_false c4
    clear c4
    by_cases c17 : x5_1 < (l0.length : Int)
    ·rw [if_pos c17] at H
     have c17b0 : decide (x5_1 < (l0.length : Int)) = true := decide_eq_true c17
     clear c17
     obtain ⟨y365, hy365⟩ : ∃ y_ : List Int, y_ = (([] : List Int)) := ⟨_, rfl⟩
     replace H : (some (y365, false)) = some (r1, r2) := by first | (rw [hy365]; with_reducible exact H) | (have H2_ := (Option.bind_some _ _).symm.trans H; rw [hy365]; with_reducible exact H2_) | (have H2_ := (Option.bind_some _ _).symm.trans H; with_reducible exact H2_) | with_reducible exact H | (rw [hy365]; exact H) | exact H
     have Ny365 := Aside0.mk hy365
     clear hy365
     simp only [Option.some.injEq, Prod.mk.injEq] at H
     obtain ⟨rfl, rfl⟩ := H
     go_wp2_with (first | ((with_reducible refine gate_dst (N := 34) rfl ?_); refine Kd.R_lit (Kd.int .i64) _ 3 ?hg (N := 34) ?hd (xs := ([] : List Int)) (inner := []) (ok := fun _ => True) (okp := fun _ => True) ?hr ?hp (fun _ hk => hk) trivial (Below.refl _ _) (Nat.le_refl _) (by simp) ?_; (case hd => rfl); (case hg => rfl); (case hr => first | (go_simp; done) | (go_simp; rfl)); (case hp => exact (Reps.none _ _)); intro v366 w18 ho19 hb hg_ hnew_; clear hg_ hnew_; (first | rw [← Ny365.out] at ho19 | (simp only [Int.reduceToNat] at ho19; rw [← Ny365.out] at ho19)); have HO367 := Aside0.mk (Kd.R_lower (Kd.R_new' ho19 (rl_ HO_4.out)) (bz_ HB.out)); replace HO_4 := Aside0.mk (Kd.R_elder' (ra_ HO_4.out) (Kd.R_base ho19) hb); replace HB := Aside0.mk (bs_ HB.out hb); clear hb ho19))
     go_ret2
     exact ⟨_, fin_, by (with_reducible repeat (first | apply Kd.R_alloc | apply Kd.R_drewN | apply Kd.R_drew)); exact Kd.R_mono HO367.out (fun _ hk => trivial), bb_ HB.out⟩
    ·rw [if_neg c17] at H
     have c17b0 : decide (x5_1 < (l0.length : Int)) = false := decide_eq_false c17
     clear c17
     simp only [Option.some.injEq, Prod.mk.injEq] at H
     obtain ⟨rfl, rfl⟩ := H
     go_wp2
     go_ret2
     exact ⟨_, fin_, by (with_reducible repeat (first | apply Kd.R_alloc | apply Kd.R_drewN | apply Kd.R_drew)); exact HO_4.out, bb_ HB.out⟩

end Go.Proofs.Ytaofkfooijfjbaa.PFnExactArrivedAt
-- thin
