/- Each function that the law comes to, as a plain function, with the proof that the call in the model gives what that function says (written by a program of this session out of the translation). No condition. -/
import Derived.Test.YthmfjdanmbcgbaaPFnExactArrivedFlitsx0
import Derived.Test.YthmfjdanmbcgbaaPFnExactArrivedFlitsx6
import Derived.Test.YthmfjdanmbcgbaaPFnExactArrivedFlitsx7
namespace Go.Proofs.Ythmfjdanmbcgbaa.PFnExactArrivedFlits
open Go.RowKit Go.Proofs.YthmfjdanmbcgbaaW.PrintWords Go.Proofs.YthmfjdanmbcgbaaW.PrintLast Go.Proofs.YthmfjdanmbcgbaaW.PrintMore
attribute [local go_sem] max2_int min2_int max_two min_two max_three min_three max_four min_four   -- for this text's walks alone
set_option linter.unusedVariables false
set_option linter.unusedSimpArgs false

/-! ### impl_PortAt: function 107 -/
def impl_PortAt.f (k : Nat) (a0_0 : Int) (a0_1 : Int) (l0_2 : List Int) (l1_0 : List Int) (a2 : Int) (a3 : Int) : Option (Int) := (impl_NodeCount.f a0_0 a0_1).bind fun t330 => ((impl_MeshOk.f k a0_0 a0_1 l0_2).bind fun t331 => (if t331 = true then ((impl_inside.f a2 0 (wrap64 (t330 - 1))).bind fun t332 => (if t332 = true then ((impl_inside.f a3 0 (wrap64 (t330 - 1))).bind fun t333 => (if t333 = true then (if (l1_0.length : Int) = (wrap64 (t330 * t330)) then (if 0 ≤ (wrap64 ((wrap64 (a2 * t330)) + a3)) then (if (wrap64 ((wrap64 (a2 * t330)) + a3)) < (l1_0.length : Int) then ((impl_inside.f (rd l1_0 (wrap64 ((wrap64 (a2 * t330)) + a3))) 0 4).bind fun t335 => (if t335 = true then (some (rd l1_0 (wrap64 ((wrap64 (a2 * t330)) + a3)))) else (some (-1)))) else (none)) else (none)) else (some (-1))) else (some (-1)))) else (some (-1)))) else (some (-1))))
theorem impl_PortAt.mono : ∀ a0 a1 a2 a3 a4 a5 k, LeO (impl_PortAt.f k a0 a1 a2 a3 a4 a5) (impl_PortAt.f (k + 1) a0 a1 a2 a3 a4 a5) := by
 intro a0 a1 a2 a3 a4 a5 k
 unfold impl_PortAt.f
 repeat' first
   | (with_reducible exact impl_MeshOk.mono _ _ _ _)
   | (with_reducible exact LeO.refl _)
   | (with_reducible exact LeO.none _)
   | (with_reducible refine LeO.ite ?_ ?_)
   | (with_reducible refine LeO.bind ?_ (fun _ => ?_))
   | exact impl_MeshOk.mono _ _ _ _
   | exact LeO.none _
   | refine LeO.ite ?_ ?_
   | refine LeO.bind ?_ (fun _ => ?_)
theorem impl_PortAt.e0 {P : Prop} (h : P := by
 go_enter Try.func107, Try.ntmps107
 go_wp2_with (first | ((with_reducible refine gate_dst (N := 4) rfl ?_); (try (refine gate_guard (by rfl) ?_; dsimp only)); refine box_event ?hg (N := 4) ?hd (cs := #[.int .i64 a0_0, .int .i64 a0_1, .slice A0_2 l0_2.length c0_2]) (t := 38) ?hr ?_; (case hd => rfl); (case hg => rfl); (case hr => first | (go_simp; done) | (go_simp; rfl)); intro gb328 hg w_0 hbox hb; have BK328 := Aside0.mk (hbox); have GW328 := Aside0.mk ((by rw [hg]; exact (bz_ HB.out) : w.heap.size ≤ gb328)); have GE328 := Aside0.mk ((by rw [hg]; exact (bz_ HB.out) : w.heap.size ≤ gb328)); replace HB := Aside0.mk (bs_ HB.out hb); clear hb hbox hg) | ((with_reducible refine gate_dst (N := 5) rfl ?_); (try (refine gate_guard (by rfl) ?_; dsimp only)); refine box_event ?hg (N := 5) ?hd (cs := #[.slice A1_0 l1_0.length c1_0]) (t := 39) ?hr ?_; (case hd => rfl); (case hg => rfl); (case hr => first | (go_simp; done) | (go_simp; rfl)); intro gb329 hg w_0 hbox hb; have BK329 := Aside0.mk (hbox); have GW329 := Aside0.mk ((by rw [hg]; exact (bz_ HB.out) : w.heap.size ≤ gb329)); have GE329 := Aside0.mk ((by rw [hg]; exact (bz_ HB.out) : w.heap.size ≤ gb329)); replace HB := Aside0.mk (bs_ HB.out hb); have NB328_329 := Aside0.mk ((by rw [hg]; exact Nat.ne_of_lt (bl_ BK328.out) : gb328 ≠ gb329)); have NB329_328 := Aside0.mk ((by rw [hg]; exact Nat.ne_of_gt (bl_ BK328.out) : gb329 ≠ gb328)); replace BK328 := Aside0.mk (bk_ BK328.out hb); clear hb hbox hg; have hnb_ := NB328_329.out; have hnc_ := NB329_328.out; obtain ⟨hcz_0, hcz_1, hcz_2, hfz_0, hfz_1, hfz_2⟩ := cz3_ BK328.out) | ((with_reducible refine gate_callee (f := 85) rfl ?_); refine gm_ (some 12) Try.func85 #[.agg #[.int .i64 a0_0, .int .i64 a0_1]] rfl ?_; (with_reducible refine (impl_NodeCount.calls a0_0 a0_1 t330 _ A5.out).mono ?_); rintro e w_0 ⟨rfl, hb⟩; refine ⟨_, rfl, ?_⟩; replace BK328 := Aside0.mk (bk_ BK328.out hb); replace BK329 := Aside0.mk (bk_ BK329.out hb); replace HB := Aside0.mk (bs_ HB.out hb); (try clear hb); obtain ⟨hcz_0, hcz_1, hcz_2, hfz_0, hfz_1, hfz_2⟩ := cz3_ BK328.out) | ((with_reducible refine gate_callee (f := 124) rfl ?_); refine gm_ (some 14) Try.func124 #[.agg #[.int .i64 a0_0, .int .i64 a0_1, .slice A0_2 l0_2.length c0_2]] rfl ?_; (with_reducible refine (impl_MeshOk.calls k a0_0 a0_1 _ _ l0_2 _ _ ?side1 HC0_2.out A6.out).mono ?_); (case side1 => exact cb_ HR0_2.out HB.out); rintro e w_0 ⟨rfl, hb⟩; refine ⟨_, rfl, ?_⟩; replace BK328 := Aside0.mk (bk_ BK328.out hb); replace BK329 := Aside0.mk (bk_ BK329.out hb); replace HB := Aside0.mk (bs_ HB.out hb); (try clear hb)) | (go_at_call 66; (with_reducible refine (impl_inside.calls a2 0 (wrap64 (t330 - 1)) _ _ A8.out).mono ?_); rintro e w' ⟨rfl, ⟨nd, rfl⟩⟩) | (go_at_call 66; (with_reducible refine (impl_inside.calls a3 0 (wrap64 (t330 - 1)) _ _ A10.out).mono ?_); rintro e w' ⟨rfl, ⟨nd, rfl⟩⟩; obtain ⟨hcz_0, hfz_0⟩ := cz1_ BK329.out; have p334 : 0 ≤ ((ji13) : Int) := of_decide_eq_true dg_; have q334 : (ji13) < (l1_0.length : Int) := of_decide_eq_true dg_; obtain ⟨ad334, e334, hx334_0⟩ := Kd.at_int HR1_0.out (ji13) p334 q334; cases e334; replace hx334_0 := (HB.out.cell (World.block_lt_of_cell? w _ hx334_0)).trans hx334_0; replace p334 := eq_true p334; replace q334 := eq_true q334) | (go_at_call 66; (with_reducible refine (impl_inside.calls (rd l1_0 (ji13)) 0 4 _ _ A16.out).mono ?_); rintro e w' ⟨rfl, ⟨nd, rfl⟩⟩; have p336 : 0 ≤ ((ji13) : Int) := of_decide_eq_true dg_; have q336 : (ji13) < (l1_0.length : Int) := of_decide_eq_true dg_; obtain ⟨ad336, e336, hx336_0⟩ := Kd.at_int HR1_0.out (ji13) p336 q336; obtain rfl : ad334 = ad336 := (by injection e336); replace hx336_0 := (HB.out.cell (World.block_lt_of_cell? w _ hx336_0)).trans hx336_0; replace p336 := eq_true p336; replace q336 := eq_true q336) | (go_at_call 66; (with_reducible refine (impl_inside.calls (rd l1_0 (ji13)) 0 4 _ _ A16.out).mono ?_); rintro e w' ⟨rfl, ⟨nd, rfl⟩⟩))
 go_ret
 exact ⟨by first | rfl | (simp [errW_none, errW_some] <;> rfl) | (simp only [← hji13]; first | rfl | (simp [errW_none, errW_some] <;> rfl)) | (simp [*, errW_none, errW_some] <;> rfl), bb_ HB.out⟩) : P := h
theorem impl_PortAt.e1 {P : Prop} (h : P := by
 go_enter Try.func107, Try.ntmps107
 go_wp2_with (first | ((with_reducible refine gate_dst (N := 4) rfl ?_); (try (refine gate_guard (by rfl) ?_; dsimp only)); refine box_event ?hg (N := 4) ?hd (cs := #[.int .i64 a0_0, .int .i64 a0_1, .slice A0_2 l0_2.length c0_2]) (t := 38) ?hr ?_; (case hd => rfl); (case hg => rfl); (case hr => first | (go_simp; done) | (go_simp; rfl)); intro gb328 hg w_0 hbox hb; have BK328 := Aside0.mk (hbox); have GW328 := Aside0.mk ((by rw [hg]; exact (bz_ HB.out) : w.heap.size ≤ gb328)); have GE328 := Aside0.mk ((by rw [hg]; exact (bz_ HB.out) : w.heap.size ≤ gb328)); replace HB := Aside0.mk (bs_ HB.out hb); clear hb hbox hg) | ((with_reducible refine gate_dst (N := 5) rfl ?_); (try (refine gate_guard (by rfl) ?_; dsimp only)); refine box_event ?hg (N := 5) ?hd (cs := #[.slice A1_0 l1_0.length c1_0]) (t := 39) ?hr ?_; (case hd => rfl); (case hg => rfl); (case hr => first | (go_simp; done) | (go_simp; rfl)); intro gb329 hg w_0 hbox hb; have BK329 := Aside0.mk (hbox); have GW329 := Aside0.mk ((by rw [hg]; exact (bz_ HB.out) : w.heap.size ≤ gb329)); have GE329 := Aside0.mk ((by rw [hg]; exact (bz_ HB.out) : w.heap.size ≤ gb329)); replace HB := Aside0.mk (bs_ HB.out hb); have NB328_329 := Aside0.mk ((by rw [hg]; exact Nat.ne_of_lt (bl_ BK328.out) : gb328 ≠ gb329)); have NB329_328 := Aside0.mk ((by rw [hg]; exact Nat.ne_of_gt (bl_ BK328.out) : gb329 ≠ gb328)); replace BK328 := Aside0.mk (bk_ BK328.out hb); clear hb hbox hg; have hnb_ := NB328_329.out; have hnc_ := NB329_328.out; obtain ⟨hcz_0, hcz_1, hcz_2, hfz_0, hfz_1, hfz_2⟩ := cz3_ BK328.out) | ((with_reducible refine gate_callee (f := 85) rfl ?_); refine gm_ (some 12) Try.func85 #[.agg #[.int .i64 a0_0, .int .i64 a0_1]] rfl ?_; (with_reducible refine (impl_NodeCount.calls a0_0 a0_1 t330 _ A5.out).mono ?_); rintro e w_0 ⟨rfl, hb⟩; refine ⟨_, rfl, ?_⟩; replace BK328 := Aside0.mk (bk_ BK328.out hb); replace BK329 := Aside0.mk (bk_ BK329.out hb); replace HB := Aside0.mk (bs_ HB.out hb); (try clear hb); obtain ⟨hcz_0, hcz_1, hcz_2, hfz_0, hfz_1, hfz_2⟩ := cz3_ BK328.out) | ((with_reducible refine gate_callee (f := 124) rfl ?_); refine gm_ (some 14) Try.func124 #[.agg #[.int .i64 a0_0, .int .i64 a0_1, .slice A0_2 l0_2.length c0_2]] rfl ?_; (with_reducible refine (impl_MeshOk.calls k a0_0 a0_1 _ _ l0_2 _ _ ?side1 HC0_2.out A6.out).mono ?_); (case side1 => exact cb_ HR0_2.out HB.out); rintro e w_0 ⟨rfl, hb⟩; refine ⟨_, rfl, ?_⟩; replace BK328 := Aside0.mk (bk_ BK328.out hb); replace BK329 := Aside0.mk (bk_ BK329.out hb); replace HB := Aside0.mk (bs_ HB.out hb); (try clear hb)) | (go_at_call 66; (with_reducible refine (impl_inside.calls a2 0 (wrap64 (t330 - 1)) _ _ A8.out).mono ?_); rintro e w' ⟨rfl, ⟨nd, rfl⟩⟩) | (go_at_call 66; (with_reducible refine (impl_inside.calls a3 0 (wrap64 (t330 - 1)) _ _ A10.out).mono ?_); rintro e w' ⟨rfl, ⟨nd, rfl⟩⟩; obtain ⟨hcz_0, hfz_0⟩ := cz1_ BK329.out))
 go_ret
 exact ⟨fin_, bb_ HB.out⟩) : P := h
set_option maxHeartbeats 8000000 in
set_option maxRecDepth 100000 in
theorem impl_PortAt.calls (k : Nat) (a0_0 : Int) (a0_1 : Int) (A0_2 : Option Addr) (c0_2 : Nat) (l0_2 : List Int) (A1_0 : Option Addr) (c1_0 : Nat) (l1_0 : List Int) (a2 : Int) (a3 : Int) (r : Int) (w : World) (hr0_2 : Kd.C (Kd.int .i64) w A0_2 l0_2.length l0_2) (hc0_2 : l0_2.length ≤ c0_2) (hr1_0 : Kd.C (Kd.int .i64) w A1_0 l1_0.length l1_0) (hc1_0 : l1_0.length ≤ c1_0) (h : impl_PortAt.f k a0_0 a0_1 l0_2 l1_0 a2 a3 = some r) :
  Calls Try.prog 107 #[.agg #[.int .i64 a0_0, .int .i64 a0_1, .slice A0_2 l0_2.length c0_2], .agg #[.slice A1_0 l1_0.length c1_0], .int .i64 a2, .int .i64 a3] w fun e w' => e = .returned (.int .i64 r) ∧ Below w.heap.size w w' := by
 have hu38 := Try.underlying38
 have hu39 := Try.underlying39
 have hu36 := Try.underlying36
 have HR0_2 := Aside0.mk hr0_2
 have HC0_2 := Aside0.mk hc0_2
 clear hr0_2 hc0_2
 have HR1_0 := Aside0.mk hr1_0
 have HC1_0 := Aside0.mk hc1_0
 clear hr1_0 hc1_0
 have HB := Aside0.mk (Below.refl w.heap.size w)
 have H : ((impl_NodeCount.f a0_0 a0_1).bind fun t330 => ((impl_MeshOk.f k a0_0 a0_1 l0_2).bind fun t331 => (if t331 = true then ((impl_inside.f a2 0 (wrap64 (t330 - 1))).bind fun t332 => (if t332 = true then ((impl_inside.f a3 0 (wrap64 (t330 - 1))).bind fun t333 => (if t333 = true then (if (l1_0.length : Int) = (wrap64 (t330 * t330)) then (if 0 ≤ (wrap64 ((wrap64 (a2 * t330)) + a3)) then (if (wrap64 ((wrap64 (a2 * t330)) + a3)) < (l1_0.length : Int) then ((impl_inside.f (rd l1_0 (wrap64 ((wrap64 (a2 * t330)) + a3))) 0 4).bind fun t335 => (if t335 = true then (some (rd l1_0 (wrap64 ((wrap64 (a2 * t330)) + a3)))) else (some (-1)))) else (none)) else (none)) else (some (-1))) else (some (-1)))) else (some (-1)))) else (some (-1))))) = some r := h
 clear h
 replace H := Option.bind_eq_some_iff.mp H
 obtain ⟨t330, A50, H⟩ := H
 try dsimp only at H
 have A5 := Aside0.mk A50
 clear A50
 replace H := Option.bind_eq_some_iff.mp H
 obtain ⟨t331, A60, H⟩ := H
 try dsimp only at H
 have A6 := Aside0.mk A60
 clear A60
 by_cases c7 : t331 = true
 ·subst c7
  rw [if_pos rfl] at H
  replace H := Option.bind_eq_some_iff.mp H
  obtain ⟨t332, A80, H⟩ := H
  try dsimp only at H
  have A8 := Aside0.mk A80
  clear A80
  by_cases c9 : t332 = true
  ·subst c9
   rw [if_pos rfl] at H
   replace H := Option.bind_eq_some_iff.mp H
   obtain ⟨t333, A100, H⟩ := H
   try dsimp only at H
   have A10 := Aside0.mk A100
   clear A100
   by_cases c11 : t333 = true
   ·subst c11
    rw [if_pos rfl] at H
    by_cases c12 : (l1_0.length : Int) = (wrap64 (t330 * t330))
    ·rw [if_pos c12] at H
     have c12b0 : ((l1_0.length : Int) == (wrap64 (t330 * t330))) = true := beq_iff_eq.mpr c12
     have c12b1 : ((l1_0.length : Int) != (wrap64 (t330 * t330))) = false := bne_eq_false_iff_eq.mpr c12
     clear c12
     obtain ⟨ji13, hji13⟩ : ∃ j_ : Int, (wrap64 ((wrap64 (a2 * t330)) + a3)) = j_ := ⟨_, rfl⟩
     replace H : (if 0 ≤ (ji13) then (if (ji13) < (l1_0.length : Int) then ((impl_inside.f (rd l1_0 (ji13)) 0 4).bind fun t335 => (if t335 = true then (some (rd l1_0 (ji13))) else (some (-1)))) else (none)) else (none)) = some r := by first | (rw [hji13] at H; exact H) | (simp only [hji13] at H ⊢; exact H)
     (try rw [hji13] at A5)
     (try rw [hji13] at A6)
     (try rw [hji13] at A8)
     (try rw [hji13] at A10)
     have hji13w : (IntKind.i64.wrap ((wrap64 (a2 * t330)) + a3)) = ji13 := (i64_w _).trans hji13
     by_cases c14 : 0 ≤ (ji13)
     ·rw [if_pos c14] at H
      have c14b0 : decide (0 ≤ (ji13)) = true := decide_eq_true c14
      clear c14
      by_cases c15 : (ji13) < (l1_0.length : Int)
      ·rw [if_pos c15] at H
       have c15b0 : decide ((ji13) < (l1_0.length : Int)) = true := decide_eq_true c15
       clear c15
       replace H := Option.bind_eq_some_iff.mp H
       obtain ⟨t335, A160, H⟩ := H
       try dsimp only at H
       have A16 := Aside0.mk A160
       clear A160
       by_cases c17 : t335 = true
       ·subst c17
        rw [if_pos rfl] at H
        obtain rfl := Option.some.inj H
        exact impl_PortAt.e0
       ·replace c17 := Bool.eq_false_iff.mpr c17
        subst c17
        rw [if_neg (show ¬ (false = true) by decide)] at H
        obtain rfl := Option.some.inj H
        exact impl_PortAt.e0
      ·rw [if_neg c15] at H
       exact absurd H (by simp)
     ·rw [if_neg c14] at H
      exact absurd H (by simp)
    ·rw [if_neg c12] at H
     have c12b0 : ((l1_0.length : Int) == (wrap64 (t330 * t330))) = false := beq_eq_false_iff_ne.mpr c12
     have c12b1 : ((l1_0.length : Int) != (wrap64 (t330 * t330))) = true := bne_iff_ne.mpr c12
     obtain rfl := Option.some.inj H
     exact impl_PortAt.e1
   ·replace c11 := Bool.eq_false_iff.mpr c11
    subst c11
    rw [if_neg (show ¬ (false = true) by decide)] at H
    obtain rfl := Option.some.inj H
    exact impl_PortAt.e1
  ·replace c9 := Bool.eq_false_iff.mpr c9
   subst c9
   rw [if_neg (show ¬ (false = true) by decide)] at H
   obtain rfl := Option.some.inj H
   exact impl_PortAt.e1
 ·replace c7 := Bool.eq_false_iff.mpr c7
  subst c7
  rw [if_neg (show ¬ (false = true) by decide)] at H
  obtain rfl := Option.some.inj H
  exact impl_PortAt.e1

/-! ### impl_endOf: function 135 -/
def impl_endOf.f (a0_0 : Int) (a0_1 : Int) (l0_2 : List Int) (a1 : Int) : Option (Int) := (impl_NextNode.f a0_0 a0_1 (wrap64 (Int.tdiv a1 4)) (Int.tmod a1 4)).bind fun t338 => (some t338)
set_option maxHeartbeats 8000000 in
set_option maxRecDepth 100000 in
theorem impl_endOf.calls (a0_0 : Int) (a0_1 : Int) (A0_2 : Option Addr) (c0_2 : Nat) (l0_2 : List Int) (a1 : Int) (r : Int) (w : World) (hr0_2 : Kd.C (Kd.int .i64) w A0_2 l0_2.length l0_2) (hc0_2 : l0_2.length ≤ c0_2) (h : impl_endOf.f a0_0 a0_1 l0_2 a1 = some r) :
  Calls Try.prog 135 #[.agg #[.int .i64 a0_0, .int .i64 a0_1, .slice A0_2 l0_2.length c0_2], .int .i64 a1] w fun e w' => e = .returned (.int .i64 r) ∧ Below w.heap.size w w' := by
 have hu38 := Try.underlying38
 have hu36 := Try.underlying36
 have HR0_2 := Aside0.mk hr0_2
 have HC0_2 := Aside0.mk hc0_2
 clear hr0_2 hc0_2
 have HB := Aside0.mk (Below.refl w.heap.size w)
 have H : ((impl_NextNode.f a0_0 a0_1 (wrap64 (Int.tdiv a1 4)) (Int.tmod a1 4)).bind fun t338 => (some t338)) = some r := h
 clear h
 replace H := Option.bind_eq_some_iff.mp H
 obtain ⟨t338, A30, H⟩ := H
 try dsimp only at H
 have A3 := Aside0.mk A30
 clear A30
 obtain rfl := Option.some.inj H
 go_enter Try.func135, Try.ntmps135
 go_wp2_with (first | ((with_reducible refine gate_dst (N := 2) rfl ?_); refine box_event ?hg (N := 2) ?hd (cs := #[.int .i64 a0_0, .int .i64 a0_1, .slice A0_2 l0_2.length c0_2]) (t := 38) ?hr ?_; (case hd => rfl); (case hg => rfl); (case hr => first | (go_simp; done) | (go_simp; rfl)); intro gb337 hg w4 hbox hb; have BK337 := Aside0.mk (hbox); have GW337 := Aside0.mk ((by rw [hg]; exact (bz_ HB.out) : w.heap.size ≤ gb337)); have GE337 := Aside0.mk ((by rw [hg]; exact (bz_ HB.out) : w.heap.size ≤ gb337)); replace HB := Aside0.mk (bs_ HB.out hb); clear hb hbox hg; obtain ⟨hcz5_0, hcz5_1, hcz5_2, hfz5_0, hfz5_1, hfz5_2⟩ := cz3_ BK337.out) | ((with_reducible refine gate_callee (f := 150) rfl ?_); refine gm_ (some 11) Try.func150 #[.agg #[.int .i64 a0_0, .int .i64 a0_1], .int .i64 (wrap64 (Int.tdiv a1 4)), .int .i64 (Int.tmod a1 4)] rfl ?_; (with_reducible refine (impl_NextNode.calls a0_0 a0_1 (wrap64 (Int.tdiv a1 4)) (Int.tmod a1 4) t338 _ A3.out).mono ?_); rintro e w6 ⟨rfl, hb⟩; refine ⟨_, rfl, ?_⟩; replace BK337 := Aside0.mk (bk_ BK337.out hb); replace HB := Aside0.mk (bs_ HB.out hb); (try clear hb)))
 go_ret
 exact ⟨fin_, bb_ HB.out⟩

/-! ### impl_WalkTable: function 156 -/
mutual
def impl_WalkTable.j0 : Nat → Int → Int → Bool → Int → Int → List Int → List Int → Option (List Int)
 | 0, _, _, _, _, _, _, _ => none
 | k + 1, x2, x3, x33, x340000, x340001, x340002, x341000 => if x33 = true then (some ([] : List Int)) else (impl_WalkTable.l0 k x3 (([] : List Int)) x2 x340000 x340001 x340002 x341000)
def impl_WalkTable.l0 : Nat → Int → List Int → Int → Int → Int → List Int → List Int → Option (List Int)
 | 0, _, _, _, _, _, _, _ => none
 | k + 1, x3, x9, x10, x340000, x340001, x340002, x341000 => (impl_PortAt.f k x340000 x340001 x340002 x341000 x10 x3).bind fun t347 => (if t347 < 0 then (some ([] : List Int)) else (if t347 = 4 then (if x10 = x3 then (some x9) else (some ([] : List Int))) else ((impl_HasChannel.f k x340000 x340001 x340002 (wrap64 ((wrap64 (4 * x10)) + t347))).bind fun t348 => (if t348 = true then ((impl_NodeCount.f x340000 x340001).bind fun t349 => (if (x9.length : Int) = t349 then (some ([] : List Int)) else (if x9.length < 17592186044416 then ((impl_endOf.f x340000 x340001 x340002 (wrap64 ((wrap64 (4 * x10)) + t347))).bind fun t353 => (impl_WalkTable.l0 k x3 (x9 ++ [wrap64 ((wrap64 (4 * x10)) + t347)]) t353 x340000 x340001 x340002 x341000)) else (none)))) else (some ([] : List Int))))))
end
def impl_WalkTable.f (k : Nat) (a0_0 : Int) (a0_1 : Int) (l0_2 : List Int) (l1_0 : List Int) (a2 : Int) (a3 : Int) : Option (List Int) := if a2 = a3 then (impl_WalkTable.j0 k a2 a3 true a0_0 a0_1 l0_2 l1_0) else ((impl_MeshOk.f k a0_0 a0_1 l0_2).bind fun t341 => (if t341 = true then ((impl_isNode.f a0_0 a0_1 a2).bind fun t342 => (if t342 = true then ((impl_isNode.f a0_0 a0_1 a3).bind fun t343 => (impl_WalkTable.j0 k a2 a3 (!t343) a0_0 a0_1 l0_2 l1_0)) else (impl_WalkTable.j0 k a2 a3 true a0_0 a0_1 l0_2 l1_0))) else (impl_WalkTable.j0 k a2 a3 true a0_0 a0_1 l0_2 l1_0)))
theorem impl_WalkTable.mono_l : ∀ k, (∀ y0 y1 y2 y3 y4 y5 y6, LeO (impl_WalkTable.j0 k y0 y1 y2 y3 y4 y5 y6) (impl_WalkTable.j0 (k + 1) y0 y1 y2 y3 y4 y5 y6)) ∧ (∀ y0 y1 y2 y3 y4 y5 y6, LeO (impl_WalkTable.l0 k y0 y1 y2 y3 y4 y5 y6) (impl_WalkTable.l0 (k + 1) y0 y1 y2 y3 y4 y5 y6))
 | 0 => ⟨fun _ _ _ _ _ _ _ r h => by simp [impl_WalkTable.j0] at h, fun _ _ _ _ _ _ _ r h => by simp [impl_WalkTable.l0] at h⟩
 | k + 1 => by
  obtain ⟨ih0, ih1⟩ := impl_WalkTable.mono_l k
  refine ⟨?_, ?_⟩
  ·intro y0 y1 y2 y3 y4 y5 y6
   unfold impl_WalkTable.j0
   repeat' first
   | (with_reducible exact ih0 _ _ _ _ _ _ _)
   | (with_reducible exact ih1 _ _ _ _ _ _ _)
   | (with_reducible exact impl_HasChannel.mono _ _ _ _ _)
   | (with_reducible exact impl_MeshOk.mono _ _ _ _)
   | (with_reducible exact impl_PortAt.mono _ _ _ _ _ _ _)
   | (with_reducible exact LeO.refl _)
   | (with_reducible exact LeO.none _)
   | (with_reducible refine LeO.ite ?_ ?_)
   | (with_reducible refine LeO.bind ?_ (fun _ => ?_))
   | exact ih0 _ _ _ _ _ _ _
   | exact ih1 _ _ _ _ _ _ _
   | exact impl_HasChannel.mono _ _ _ _ _
   | exact impl_MeshOk.mono _ _ _ _
   | exact impl_PortAt.mono _ _ _ _ _ _ _
   | exact LeO.none _
   | refine LeO.ite ?_ ?_
   | refine LeO.bind ?_ (fun _ => ?_)
  ·intro y0 y1 y2 y3 y4 y5 y6
   unfold impl_WalkTable.l0
   repeat' first
   | (with_reducible exact ih0 _ _ _ _ _ _ _)
   | (with_reducible exact ih1 _ _ _ _ _ _ _)
   | (with_reducible exact impl_HasChannel.mono _ _ _ _ _)
   | (with_reducible exact impl_MeshOk.mono _ _ _ _)
   | (with_reducible exact impl_PortAt.mono _ _ _ _ _ _ _)
   | (with_reducible exact LeO.refl _)
   | (with_reducible exact LeO.none _)
   | (with_reducible refine LeO.ite ?_ ?_)
   | (with_reducible refine LeO.bind ?_ (fun _ => ?_))
   | exact ih0 _ _ _ _ _ _ _
   | exact ih1 _ _ _ _ _ _ _
   | exact impl_HasChannel.mono _ _ _ _ _
   | exact impl_MeshOk.mono _ _ _ _
   | exact impl_PortAt.mono _ _ _ _ _ _ _
   | exact LeO.none _
   | refine LeO.ite ?_ ?_
   | refine LeO.bind ?_ (fun _ => ?_)
theorem impl_WalkTable.mono : ∀ a0 a1 a2 a3 a4 a5 k, LeO (impl_WalkTable.f k a0 a1 a2 a3 a4 a5) (impl_WalkTable.f (k + 1) a0 a1 a2 a3 a4 a5) := by
 intro a0 a1 a2 a3 a4 a5 k
 obtain ⟨ih0, ih1⟩ := impl_WalkTable.mono_l k
 unfold impl_WalkTable.f
 repeat' first
   | (with_reducible exact ih0 _ _ _ _ _ _ _)
   | (with_reducible exact ih1 _ _ _ _ _ _ _)
   | (with_reducible exact impl_HasChannel.mono _ _ _ _ _)
   | (with_reducible exact impl_MeshOk.mono _ _ _ _)
   | (with_reducible exact impl_PortAt.mono _ _ _ _ _ _ _)
   | (with_reducible exact LeO.refl _)
   | (with_reducible exact LeO.none _)
   | (with_reducible refine LeO.ite ?_ ?_)
   | (with_reducible refine LeO.bind ?_ (fun _ => ?_))
   | exact ih0 _ _ _ _ _ _ _
   | exact ih1 _ _ _ _ _ _ _
   | exact impl_HasChannel.mono _ _ _ _ _
   | exact impl_MeshOk.mono _ _ _ _
   | exact impl_PortAt.mono _ _ _ _ _ _ _
   | exact LeO.none _
   | refine LeO.ite ?_ ?_
   | refine LeO.bind ?_ (fun _ => ?_)
theorem impl_WalkTable.e0 {P : Prop} (h : P := by
 obtain ⟨hcz_0, hcz_1, hcz_2, hfz_0, hfz_1, hfz_2⟩ := cz3_ BK339.out
 go_wp2_with (first | (go_at_call 124; (with_reducible refine (impl_MeshOk.calls k a0_0 a0_1 _ _ l0_2 _ _ ?side1 HC0_2.out A9.out).mono ?_); (case side1 => exact cb_ HR0_2.out HB.out); rintro e w_0 ⟨rfl, hb⟩; replace BK339 := Aside0.mk (bk_ BK339.out hb); replace BK340 := Aside0.mk (bk_ BK340.out hb); replace HB := Aside0.mk (bs_ HB.out hb); (try clear hb); obtain ⟨hcz_0, hcz_1, hcz_2, hfz_0, hfz_1, hfz_2⟩ := cz3_ BK339.out) | (go_at_call 105; (with_reducible refine (impl_isNode.calls a0_0 a0_1 a2 _ _ A11.out).mono ?_); rintro e w_0 ⟨rfl, hb⟩; replace BK339 := Aside0.mk (bk_ BK339.out hb); replace BK340 := Aside0.mk (bk_ BK340.out hb); replace HB := Aside0.mk (bs_ HB.out hb); (try clear hb)))
 go_meet
 case rel => exact ⟨_, (true), ef_, H', ⟨kq_⟩, ⟨bq_ BK339.out⟩, ⟨bq_ BK340.out⟩, ⟨bb_ HB.out⟩⟩) : P := h
theorem impl_WalkTable.e1 {P : Prop} (h : P := by
 obtain ⟨hcz_0, hcz_1, hcz_2, hfz_0, hfz_1, hfz_2⟩ := cz3_ BK339.out
 obtain ⟨hcz_0, hfz_0⟩ := cz1_ BK340.out
 go_wp2_with (first | ((with_reducible refine gate_callee (f := 107) rfl ?_); refine gm_ (some 40) Try.func107 #[.agg #[.int .i64 a0_0, .int .i64 a0_1, .slice A0_2 l0_2.length c0_2], .agg #[.slice A1_0 l1_0.length c1_0], .int .i64 x10_2, .int .i64 a3] rfl ?_; (with_reducible refine (impl_PortAt.calls k2 a0_0 a0_1 _ _ l0_2 _ _ l1_0 x10_2 a3 t347 _ ?side1 HC0_2.out ?side3 HC1_0.out A32.out).mono ?_); (case side1 => exact cb_ HR0_2.out HB.out); (case side3 => exact cb_ HR1_0.out HB.out); rintro e w_0 ⟨rfl, hb⟩; refine ⟨_, rfl, ?_⟩; replace HO_9 := Aside0.mk (Kd.R_below (ra_ HO_9.out) hb); replace BK339 := Aside0.mk (bk_ BK339.out hb); replace BK340 := Aside0.mk (bk_ BK340.out hb); replace HB := Aside0.mk (bs_ HB.out hb); (try clear hb); obtain ⟨hcz_0, hcz_1, hcz_2, hfz_0, hfz_1, hfz_2⟩ := cz3_ BK339.out) | ((with_reducible refine gate_callee (f := 86) rfl ?_); refine gm_ (some 57) Try.func86 #[.agg #[.int .i64 a0_0, .int .i64 a0_1, .slice A0_2 l0_2.length c0_2], .int .i64 (wrap64 ((wrap64 (4 * x10_2)) + t347))] rfl ?_; (with_reducible refine (impl_HasChannel.calls k2 a0_0 a0_1 _ _ l0_2 (wrap64 ((wrap64 (4 * x10_2)) + t347)) _ _ ?side1 HC0_2.out A48.out).mono ?_); (case side1 => exact cb_ HR0_2.out HB.out); rintro e w_0 ⟨rfl, hb⟩; refine ⟨_, rfl, ?_⟩; replace HO_9 := Aside0.mk (Kd.R_below (ra_ HO_9.out) hb); replace BK339 := Aside0.mk (bk_ BK339.out hb); replace BK340 := Aside0.mk (bk_ BK340.out hb); replace HB := Aside0.mk (bs_ HB.out hb); (try clear hb); obtain ⟨Ao58, co58, eo58⟩ := Kd.R_slice HO_9.out; subst eo58; obtain ⟨hcz_0, hcz_1, hcz_2, hfz_0, hfz_1, hfz_2⟩ := cz3_ BK339.out) | (go_at_call 85; (with_reducible refine (impl_NodeCount.calls a0_0 a0_1 t349 _ A50.out).mono ?_); rintro e w_0 ⟨rfl, hb⟩; replace HO_9 := Aside0.mk (Kd.R_below (ra_ HO_9.out) hb); replace BK339 := Aside0.mk (bk_ BK339.out hb); replace BK340 := Aside0.mk (bk_ BK340.out hb); replace HB := Aside0.mk (bs_ HB.out hb); (try clear hb)) | ((with_reducible refine gate_callee (f := 86) rfl ?_); refine gm_ (some 57) Try.func86 #[.agg #[.int .i64 a0_0, .int .i64 a0_1, .slice A0_2 l0_2.length c0_2], .int .i64 (wrap64 ((wrap64 (4 * x10_2)) + t347))] rfl ?_; (with_reducible refine (impl_HasChannel.calls k2 a0_0 a0_1 _ _ l0_2 (wrap64 ((wrap64 (4 * x10_2)) + t347)) _ _ ?side1 HC0_2.out A48.out).mono ?_); (case side1 => exact cb_ HR0_2.out HB.out); rintro e w_0 ⟨rfl, hb⟩; refine ⟨_, rfl, ?_⟩; replace HO_9 := Aside0.mk (Kd.R_below (ra_ HO_9.out) hb); replace BK339 := Aside0.mk (bk_ BK339.out hb); replace BK340 := Aside0.mk (bk_ BK340.out hb); replace HB := Aside0.mk (bs_ HB.out hb); (try clear hb)))
 go_ret
 exact ⟨_, fin_, by first | exact Kd.R_nil _ _ _ _ _ | exact Kd.N_nil _ _ _ _ _ | exact Kd.V_nil _ _ _ _ _ | exact Kd.Q_nil _ _ _ _ _ | exact Kd.S_nil _ _ _ _ _, bb_ HB.out⟩) : P := h
set_option maxHeartbeats 8000000 in
set_option maxRecDepth 100000 in
theorem impl_WalkTable.calls (k : Nat) (a0_0 : Int) (a0_1 : Int) (A0_2 : Option Addr) (c0_2 : Nat) (l0_2 : List Int) (A1_0 : Option Addr) (c1_0 : Nat) (l1_0 : List Int) (a2 : Int) (a3 : Int) (r : List Int) (w : World) (hr0_2 : Kd.C (Kd.int .i64) w A0_2 l0_2.length l0_2) (hc0_2 : l0_2.length ≤ c0_2) (hr1_0 : Kd.C (Kd.int .i64) w A1_0 l1_0.length l1_0) (hc1_0 : l1_0.length ≤ c1_0) (h : impl_WalkTable.f k a0_0 a0_1 l0_2 l1_0 a2 a3 = some r) :
  Calls Try.prog 156 #[.agg #[.int .i64 a0_0, .int .i64 a0_1, .slice A0_2 l0_2.length c0_2], .agg #[.slice A1_0 l1_0.length c1_0], .int .i64 a2, .int .i64 a3] w fun e w' => ∃ v0_ : Value, e = .returned (v0_) ∧ Kd.R (Kd.int .i64) 3 w' w.heap.size (fun _ => True) v0_ r ∧ Below w.heap.size w w' := by
 have hu38 := Try.underlying38
 have hu39 := Try.underlying39
 have hu36 := Try.underlying36
 have HR0_2 := Aside0.mk hr0_2
 have HC0_2 := Aside0.mk hc0_2
 clear hr0_2 hc0_2
 have HR1_0 := Aside0.mk hr1_0
 have HC1_0 := Aside0.mk hc1_0
 clear hr1_0 hc1_0
 have HB := Aside0.mk (Below.refl w.heap.size w)
 have H : (if a2 = a3 then (impl_WalkTable.j0 k a2 a3 true a0_0 a0_1 l0_2 l1_0) else ((impl_MeshOk.f k a0_0 a0_1 l0_2).bind fun t341 => (if t341 = true then ((impl_isNode.f a0_0 a0_1 a2).bind fun t342 => (if t342 = true then ((impl_isNode.f a0_0 a0_1 a3).bind fun t343 => (impl_WalkTable.j0 k a2 a3 (!t343) a0_0 a0_1 l0_2 l1_0)) else (impl_WalkTable.j0 k a2 a3 true a0_0 a0_1 l0_2 l1_0))) else (impl_WalkTable.j0 k a2 a3 true a0_0 a0_1 l0_2 l1_0)))) = some r := h
 clear h
 have HC5 := Aside0.mk H
 clear H
 go_enter Try.func156, Try.ntmps156
 go_upto_region 1 with (first | ((with_reducible refine gate_dst (N := 4) rfl ?_); (try (refine gate_guard (by rfl) ?_; dsimp only)); refine box_event ?hg (N := 4) ?hd (cs := #[.int .i64 a0_0, .int .i64 a0_1, .slice A0_2 l0_2.length c0_2]) (t := 38) ?hr ?_; (case hd => rfl); (case hg => rfl); (case hr => first | (go_simp; done) | (go_simp; rfl)); intro gb339 hg w6 hbox hb; have BK339 := Aside0.mk (hbox); have GW339 := Aside0.mk ((by rw [hg]; exact (bz_ HB.out) : w.heap.size ≤ gb339)); have GE339 := Aside0.mk ((by rw [hg]; exact (bz_ HB.out) : w.heap.size ≤ gb339)); replace HB := Aside0.mk (bs_ HB.out hb); clear hb hbox hg) | ((with_reducible refine gate_dst (N := 5) rfl ?_); (try (refine gate_guard (by rfl) ?_; dsimp only)); refine box_event ?hg (N := 5) ?hd (cs := #[.slice A1_0 l1_0.length c1_0]) (t := 39) ?hr ?_; (case hd => rfl); (case hg => rfl); (case hr => first | (go_simp; done) | (go_simp; rfl)); intro gb340 hg w7 hbox hb; have BK340 := Aside0.mk (hbox); have GW340 := Aside0.mk ((by rw [hg]; exact (bz_ HB.out) : w.heap.size ≤ gb340)); have GE340 := Aside0.mk ((by rw [hg]; exact (bz_ HB.out) : w.heap.size ≤ gb340)); replace HB := Aside0.mk (bs_ HB.out hb); have NB339_340 := Aside0.mk ((by rw [hg]; exact Nat.ne_of_lt (bl_ BK339.out) : gb339 ≠ gb340)); have NB340_339 := Aside0.mk ((by rw [hg]; exact Nat.ne_of_gt (bl_ BK339.out) : gb340 ≠ gb339)); replace BK339 := Aside0.mk (bk_ BK339.out hb); clear hb hbox hg))
 (try simp only [Act.put, List.setIfInBounds_toArray, List.set_cons_zero, List.set_cons_succ])
 go_cut [33] (fun v33 wc => ∃ (kq : Nat) (x33_4 : Bool), v33 = .bool x33_4 ∧ Aside0 (impl_WalkTable.j0 kq a2 a3 x33_4 a0_0 a0_1 l0_2 l1_0 = some r) ∧ Aside0 (kq ≤ k) ∧ Aside0 (wc.heap[gb339]? = some (.cells #[.int .i64 a0_0, .int .i64 a0_1, (.slice A0_2 l0_2.length c0_2)] 38 (0, 0))) ∧ Aside0 (wc.heap[gb340]? = some (.cells #[(.slice A1_0 l1_0.length c1_0)] 39 (0, 0))) ∧ Aside0 (Below w.heap.size w wc))
 case first =>
  have H := HC5.out
  clear HC5
  by_cases c8 : a2 = a3
  ·rw [if_pos c8] at H
   have c8b0 : (a2 == a3) = true := beq_iff_eq.mpr c8
   have c8b1 : (a2 != a3) = false := bne_eq_false_iff_eq.mpr c8
   clear c8
   (first | rw [c8b0] | (simp only [i64_w, i32_w]; rw [c8b0]) | skip)
   have H' := Aside0.mk H
   clear H
   go_wp2
   go_meet
   case rel => exact ⟨_, (true), ef_, H', ⟨kq_⟩, ⟨bq_ BK339.out⟩, ⟨bq_ BK340.out⟩, ⟨bb_ HB.out⟩⟩
  ·rw [if_neg c8] at H
   have c8b0 : (a2 == a3) = false := beq_eq_false_iff_ne.mpr c8
   have c8b1 : (a2 != a3) = true := bne_iff_ne.mpr c8
   (first | rw [c8b0] | (simp only [i64_w, i32_w]; rw [c8b0]) | skip)
   replace H := Option.bind_eq_some_iff.mp H
   obtain ⟨t341, A90, H⟩ := H
   try dsimp only at H
   have A9 := Aside0.mk A90
   clear A90
   by_cases c10 : t341 = true
   ·subst c10
    rw [if_pos rfl] at H
    replace H := Option.bind_eq_some_iff.mp H
    obtain ⟨t342, A110, H⟩ := H
    try dsimp only at H
    have A11 := Aside0.mk A110
    clear A110
    by_cases c12 : t342 = true
    ·subst c12
     rw [if_pos rfl] at H
     replace H := Option.bind_eq_some_iff.mp H
     obtain ⟨t343, A130, H⟩ := H
     try dsimp only at H
     have A13 := Aside0.mk A130
     clear A130
     have H' := Aside0.mk H
     clear H
     have hnb14 := NB339_340.out
     have hnc14 := NB340_339.out
     obtain ⟨hcz15_0, hcz15_1, hcz15_2, hfz15_0, hfz15_1, hfz15_2⟩ := cz3_ BK339.out
     go_wp2_with (first | (go_at_call 124; (with_reducible refine (impl_MeshOk.calls k a0_0 a0_1 _ _ l0_2 true _ ?side1 HC0_2.out A9.out).mono ?_); (case side1 => exact cb_ HR0_2.out HB.out); rintro e w16 ⟨rfl, hb⟩; replace BK339 := Aside0.mk (bk_ BK339.out hb); replace BK340 := Aside0.mk (bk_ BK340.out hb); replace HB := Aside0.mk (bs_ HB.out hb); (try clear hb); obtain ⟨hcz17_0, hcz17_1, hcz17_2, hfz17_0, hfz17_1, hfz17_2⟩ := cz3_ BK339.out) | (go_at_call 105; (with_reducible refine (impl_isNode.calls a0_0 a0_1 a2 true _ A11.out).mono ?_); rintro e w18 ⟨rfl, hb⟩; replace BK339 := Aside0.mk (bk_ BK339.out hb); replace BK340 := Aside0.mk (bk_ BK340.out hb); replace HB := Aside0.mk (bs_ HB.out hb); (try clear hb); obtain ⟨hcz19_0, hcz19_1, hcz19_2, hfz19_0, hfz19_1, hfz19_2⟩ := cz3_ BK339.out) | (go_at_call 105; (with_reducible refine (impl_isNode.calls a0_0 a0_1 a3 t343 _ A13.out).mono ?_); rintro e w20 ⟨rfl, hb⟩; replace BK339 := Aside0.mk (bk_ BK339.out hb); replace BK340 := Aside0.mk (bk_ BK340.out hb); replace HB := Aside0.mk (bs_ HB.out hb); (try clear hb)))
     go_meet
     case rel => exact ⟨_, (!t343), ef_, H', ⟨kq_⟩, ⟨bq_ BK339.out⟩, ⟨bq_ BK340.out⟩, ⟨bb_ HB.out⟩⟩
    ·replace c12 := Bool.eq_false_iff.mpr c12
     subst c12
     rw [if_neg (show ¬ (false = true) by decide)] at H
     have H' := Aside0.mk H
     clear H
     have hnb21 := NB339_340.out
     have hnc21 := NB340_339.out
     exact impl_WalkTable.e0
   ·replace c10 := Bool.eq_false_iff.mpr c10
    subst c10
    rw [if_neg (show ¬ (false = true) by decide)] at H
    have H' := Aside0.mk H
    clear H
    have hnb26 := NB339_340.out
    have hnc26 := NB340_339.out
    exact impl_WalkTable.e0
 case rest =>
  clear HC5
  obtain ⟨kq, x33_4, rfl, HA, HJ4, BK339, BK340, HB⟩ := hcut
  cases kq with
  | zero => exact absurd HA.out (by simp [impl_WalkTable.j0])
  | succ kj4 =>
   have H := HA.out
   clear HA
   simp only [impl_WalkTable.j0] at H
   by_cases c29 : x33_4 = true
   ·subst c29
    rw [if_pos rfl] at H
    obtain rfl := Option.some.inj H
    go_wp2
    go_ret
    exact ⟨_, fin_, by first | exact Kd.R_nil _ _ _ _ _ | exact Kd.N_nil _ _ _ _ _ | exact Kd.V_nil _ _ _ _ _ | exact Kd.Q_nil _ _ _ _ _ | exact Kd.S_nil _ _ _ _ _, bb_ HB.out⟩
   ·replace c29 := Bool.eq_false_iff.mpr c29
    subst c29
    rw [if_neg (show ¬ (false = true) by decide)] at H
    obtain ⟨y344, hy344⟩ : ∃ y_ : List Int, y_ = (([] : List Int)) := ⟨_, rfl⟩
    replace H : (impl_WalkTable.l0 kj4 a3 y344 a2 a0_0 a0_1 l0_2 l1_0) = some r := by first | (rw [hy344]; with_reducible exact H) | (have H2_ := (Option.bind_some _ _).symm.trans H; rw [hy344]; with_reducible exact H2_) | (have H2_ := (Option.bind_some _ _).symm.trans H; with_reducible exact H2_) | with_reducible exact H | (rw [hy344]; exact H) | exact H
    have Ny344 := Aside0.mk hy344
    clear hy344
    have H' := Aside0.mk H
    clear H
    go_wp2_with (first | ((with_reducible refine gate_dst (N := 34) rfl ?_); (try (refine gate_guard (by rfl) ?_; dsimp only)); refine Kd.R_lit (Kd.int .i64) _ 3 ?hg (N := 34) ?hd (xs := ([] : List Int)) (inner := []) (ok := fun _ => True) (okp := fun _ => True) ?hr ?hp (fun _ hk => hk) trivial (Below.refl _ _) (Nat.le_refl _) (by simp) ?_; (case hd => rfl); (case hg => rfl); (case hr => first | (go_simp; done) | (go_simp; rfl)); (case hp => exact (Reps.none _ _)); intro v345 w30 ho31 hb hg_ hnew_; clear hg_ hnew_; (first | rw [← Ny344.out] at ho31 | (simp only [Int.reduceToNat] at ho31; rw [← Ny344.out] at ho31)); have HO346 := Aside0.mk (Kd.R_lower ho31 (bz_ HB.out)); replace BK339 := Aside0.mk (bk_ BK339.out hb); replace BK340 := Aside0.mk (bk_ BK340.out hb); replace HB := Aside0.mk (bs_ HB.out hb); clear hb ho31))
    go_loopg [9, 10] kj4 (fun kq v9 v10 w' => ∃ (x9_2 : List Int) (x10_2 : Int), v10 = .int .i64 x10_2 ∧ Aside0 (impl_WalkTable.l0 kq a3 x9_2 x10_2 a0_0 a0_1 l0_2 l1_0 = some r) ∧ Aside0 (kq ≤ kj4) ∧ Aside0 (Kd.R (Kd.int .i64) 3 w' w.heap.size (fun _ => True) v9 x9_2) ∧ Aside0 (w'.heap[gb339]? = some (.cells #[.int .i64 a0_0, .int .i64 a0_1, (.slice A0_2 l0_2.length c0_2)] 38 (0, 0))) ∧ Aside0 (w'.heap[gb340]? = some (.cells #[(.slice A1_0 l1_0.length c1_0)] 39 (0, 0))) ∧ Aside0 (Below w.heap.size w w'))
    case atStart => exact ⟨(y344), (a2), ef_, H', ⟨Nat.le_refl _⟩, ⟨by (with_reducible repeat (first | apply Kd.R_alloc | apply Kd.R_drewN | apply Kd.R_drew)); exact HO346.out⟩, ⟨bq_ BK339.out⟩, ⟨bq_ BK340.out⟩, ⟨bb_ HB.out⟩⟩
    case round =>
     clear H'
     try clear c29
     obtain ⟨x9_2, x10_2, rfl, HA, HK2, HO_9, BK339, BK340, HB⟩ := hrel
     cases gk with
     | zero => exact absurd HA.out (by simp [impl_WalkTable.l0])
     | succ k2 =>
      have H := HA.out
      clear HA
      simp only [impl_WalkTable.l0] at H
      replace H := Option.bind_eq_some_iff.mp H
      obtain ⟨t347, A320, H⟩ := H
      try dsimp only at H
      have A32 := Aside0.mk A320
      clear A320
      by_cases c33 : t347 < 0
      ·rw [if_pos c33] at H
       have c33b0 : decide (t347 < 0) = true := decide_eq_true c33
       clear c33
       obtain rfl := Option.some.inj H
       have hnb34 := NB339_340.out
       have hnc34 := NB340_339.out
       exact impl_WalkTable.e1
      ·rw [if_neg c33] at H
       have c33b0 : decide (t347 < 0) = false := decide_eq_false c33
       clear c33
       by_cases c38 : t347 = 4
       ·rw [if_pos c38] at H
        have c38b0 : (t347 == 4) = true := beq_iff_eq.mpr c38
        have c38b1 : (t347 != 4) = false := bne_eq_false_iff_eq.mpr c38
        clear c38
        by_cases c39 : x10_2 = a3
        ·rw [if_pos c39] at H
         have c39b0 : (x10_2 == a3) = true := beq_iff_eq.mpr c39
         have c39b1 : (x10_2 != a3) = false := bne_eq_false_iff_eq.mpr c39
         clear c39
         obtain rfl := Option.some.inj H
         have hnb40 := NB339_340.out
         have hnc40 := NB340_339.out
         obtain ⟨hcz41_0, hcz41_1, hcz41_2, hfz41_0, hfz41_1, hfz41_2⟩ := cz3_ BK339.out
         obtain ⟨hcz42_0, hfz42_0⟩ := cz1_ BK340.out
         go_wp2_with (first | ((with_reducible refine gate_callee (f := 107) rfl ?_); refine gm_ (some 40) Try.func107 #[.agg #[.int .i64 a0_0, .int .i64 a0_1, .slice A0_2 l0_2.length c0_2], .agg #[.slice A1_0 l1_0.length c1_0], .int .i64 x10_2, .int .i64 a3] rfl ?_; (with_reducible refine (impl_PortAt.calls k2 a0_0 a0_1 _ _ l0_2 _ _ l1_0 x10_2 a3 t347 _ ?side1 HC0_2.out ?side3 HC1_0.out A32.out).mono ?_); (case side1 => exact cb_ HR0_2.out HB.out); (case side3 => exact cb_ HR1_0.out HB.out); rintro e w43 ⟨rfl, hb⟩; refine ⟨_, rfl, ?_⟩; replace HO_9 := Aside0.mk (Kd.R_below (ra_ HO_9.out) hb); replace BK339 := Aside0.mk (bk_ BK339.out hb); replace BK340 := Aside0.mk (bk_ BK340.out hb); replace HB := Aside0.mk (bs_ HB.out hb); (try clear hb)))
         go_ret
         exact ⟨_, fin_, by (with_reducible repeat (first | apply Kd.R_alloc | apply Kd.R_drewN | apply Kd.R_drew)); exact HO_9.out, bb_ HB.out⟩
        ·rw [if_neg c39] at H
         have c39b0 : (x10_2 == a3) = false := beq_eq_false_iff_ne.mpr c39
         have c39b1 : (x10_2 != a3) = true := bne_iff_ne.mpr c39
         obtain rfl := Option.some.inj H
         have hnb44 := NB339_340.out
         have hnc44 := NB340_339.out
         exact impl_WalkTable.e1
       ·rw [if_neg c38] at H
        have c38b0 : (t347 == 4) = false := beq_eq_false_iff_ne.mpr c38
        have c38b1 : (t347 != 4) = true := bne_iff_ne.mpr c38
        replace H := Option.bind_eq_some_iff.mp H
        obtain ⟨t348, A480, H⟩ := H
        try dsimp only at H
        have A48 := Aside0.mk A480
        clear A480
        by_cases c49 : t348 = true
        ·subst c49
         rw [if_pos rfl] at H
         replace H := Option.bind_eq_some_iff.mp H
         obtain ⟨t349, A500, H⟩ := H
         try dsimp only at H
         have A50 := Aside0.mk A500
         clear A500
         by_cases c51 : (x9_2.length : Int) = t349
         ·rw [if_pos c51] at H
          have c51b0 : ((x9_2.length : Int) == t349) = true := beq_iff_eq.mpr c51
          have c51b1 : ((x9_2.length : Int) != t349) = false := bne_eq_false_iff_eq.mpr c51
          clear c51
          obtain rfl := Option.some.inj H
          have hnb52 := NB339_340.out
          have hnc52 := NB340_339.out
          exact impl_WalkTable.e1
         ·rw [if_neg c51] at H
          have c51b0 : ((x9_2.length : Int) == t349) = false := beq_eq_false_iff_ne.mpr c51
          have c51b1 : ((x9_2.length : Int) != t349) = true := bne_iff_ne.mpr c51
          by_cases c61 : x9_2.length < 17592186044416
          ·rw [if_pos c61] at H
           have LMc61 := Aside0.mk c61
           clear c61
           obtain ⟨y350, hy350⟩ : ∃ y_ : List Int, y_ = (x9_2 ++ [wrap64 ((wrap64 (4 * x10_2)) + t347)]) := ⟨_, rfl⟩
           replace H : ((impl_endOf.f a0_0 a0_1 l0_2 (wrap64 ((wrap64 (4 * x10_2)) + t347))).bind fun t353 => (impl_WalkTable.l0 k2 a3 y350 t353 a0_0 a0_1 l0_2 l1_0)) = some r := by first | (rw [hy350]; with_reducible exact H) | (have H2_ := (Option.bind_some _ _).symm.trans H; rw [hy350]; with_reducible exact H2_) | (have H2_ := (Option.bind_some _ _).symm.trans H; with_reducible exact H2_) | with_reducible exact H | (rw [hy350]; exact H) | exact H
           have Ny350 := Aside0.mk hy350
           clear hy350
           replace H := Option.bind_eq_some_iff.mp H
           obtain ⟨t353, A620, H⟩ := H
           try dsimp only at H
           have A62 := Aside0.mk A620
           clear A620
           have H' := Aside0.mk H
           clear H
           have hnb63 := NB339_340.out
           have hnc63 := NB340_339.out
           obtain ⟨hcz64_0, hcz64_1, hcz64_2, hfz64_0, hfz64_1, hfz64_2⟩ := cz3_ BK339.out
           obtain ⟨hcz65_0, hfz65_0⟩ := cz1_ BK340.out
           go_wp2_with (first | ((with_reducible refine gate_callee (f := 107) rfl ?_); refine gm_ (some 40) Try.func107 #[.agg #[.int .i64 a0_0, .int .i64 a0_1, .slice A0_2 l0_2.length c0_2], .agg #[.slice A1_0 l1_0.length c1_0], .int .i64 x10_2, .int .i64 a3] rfl ?_; (with_reducible refine (impl_PortAt.calls k2 a0_0 a0_1 _ _ l0_2 _ _ l1_0 x10_2 a3 t347 _ ?side1 HC0_2.out ?side3 HC1_0.out A32.out).mono ?_); (case side1 => exact cb_ HR0_2.out HB.out); (case side3 => exact cb_ HR1_0.out HB.out); rintro e w66 ⟨rfl, hb⟩; refine ⟨_, rfl, ?_⟩; replace HO_9 := Aside0.mk (Kd.R_below (ra_ HO_9.out) hb); replace BK339 := Aside0.mk (bk_ BK339.out hb); replace BK340 := Aside0.mk (bk_ BK340.out hb); replace HB := Aside0.mk (bs_ HB.out hb); (try clear hb); obtain ⟨hcz67_0, hcz67_1, hcz67_2, hfz67_0, hfz67_1, hfz67_2⟩ := cz3_ BK339.out) | ((with_reducible refine gate_callee (f := 86) rfl ?_); refine gm_ (some 57) Try.func86 #[.agg #[.int .i64 a0_0, .int .i64 a0_1, .slice A0_2 l0_2.length c0_2], .int .i64 (wrap64 ((wrap64 (4 * x10_2)) + t347))] rfl ?_; (with_reducible refine (impl_HasChannel.calls k2 a0_0 a0_1 _ _ l0_2 (wrap64 ((wrap64 (4 * x10_2)) + t347)) true _ ?side1 HC0_2.out A48.out).mono ?_); (case side1 => exact cb_ HR0_2.out HB.out); rintro e w68 ⟨rfl, hb⟩; refine ⟨_, rfl, ?_⟩; replace HO_9 := Aside0.mk (Kd.R_below (ra_ HO_9.out) hb); replace BK339 := Aside0.mk (bk_ BK339.out hb); replace BK340 := Aside0.mk (bk_ BK340.out hb); replace HB := Aside0.mk (bs_ HB.out hb); (try clear hb); obtain ⟨Ao69, co69, eo69⟩ := Kd.R_slice HO_9.out; subst eo69; obtain ⟨hcz70_0, hcz70_1, hcz70_2, hfz70_0, hfz70_1, hfz70_2⟩ := cz3_ BK339.out) | (go_at_call 85; (with_reducible refine (impl_NodeCount.calls a0_0 a0_1 t349 _ A50.out).mono ?_); rintro e w71 ⟨rfl, hb⟩; replace HO_9 := Aside0.mk (Kd.R_below (ra_ HO_9.out) hb); replace BK339 := Aside0.mk (bk_ BK339.out hb); replace BK340 := Aside0.mk (bk_ BK340.out hb); replace HB := Aside0.mk (bs_ HB.out hb); (try clear hb)) | ((with_reducible refine gate_builtin (b := .append) (xs := #[.tmp 67, .tmp 72]) rfl ?_); (try (refine gate_guard (by rfl) ?_; dsimp only)); at_builtin; refine Kd.R_append (Kd.int .i64) (w0 := w) w.heap.size rfl (.tmp 67) (.tmp 72) 24 3 (.int .i64 0) 8 rfl Try.underlying24 info3 rfl (by decide) (by omega) (.slice Ao69 x9_2.length co69) x9_2 (wrap64 ((wrap64 (4 * x10_2)) + t347)) [.int .i64 (wrap64 ((wrap64 (4 * x10_2)) + t347))] (fun _ => True) (fun _ => False) rfl rfl ?aP (fun _ hk => hk.elim) ?aF ?aO ?aB ?aS ?aL ?_; (case aP => exact rfl); (case aB => exact (by repeat (first | (with_reducible first | exact HB.out | apply below_alloc | apply pw_below_drewN | apply below_drew1 | refine below_set ?_ GE339.out | refine below_set ?_ GE340.out) | exact HB.out))); (case aF => exact (fun _ _ => trivial)); (case aO => exact (ra_ HO_9.out)); (case aS => exact (bz_ HB.out)); (case aL => have := LMc61.out; omega); intro v351 w72 ho hb hg hat; rw [← Ny350.out] at ho; have n0_ := Aside0.mk (blk_grown (g := gb339) (o := .cells #[.int .i64 a0_0, .int .i64 a0_1, .slice A0_2 l0_2.length c0_2] 38 (0, 0)) (by (with_reducible repeat (first | refine blk_drewN ?_ _ | refine blk_drew ?_ | refine blk_alloc ?_ _)); exact BK339.out) hg (Kd.R_ne HO_9.out BK339.out (by decide))); have n1_ := Aside0.mk (blk_grown (g := gb340) (o := .cells #[.slice A1_0 l1_0.length c1_0] 39 (0, 0)) (by (with_reducible repeat (first | refine blk_drewN ?_ _ | refine blk_drew ?_ | refine blk_alloc ?_ _)); exact BK340.out) hg (Kd.R_ne HO_9.out BK340.out (by decide))); have n2_ := Aside0.mk (hb); have n3_ := Aside0.mk (ho); clear BK339; clear BK340; clear HB; clear HO_9; have BK339 := n0_; have BK340 := n1_; have HB := n2_; have HO352 := n3_; clear n0_ n1_ n2_ n3_; clear ho hb hg hat; obtain ⟨hcz73_0, hcz73_1, hcz73_2, hfz73_0, hfz73_1, hfz73_2⟩ := cz3_ BK339.out) | ((with_reducible refine gate_callee (f := 135) rfl ?_); refine gm_ (some 79) Try.func135 #[.agg #[.int .i64 a0_0, .int .i64 a0_1, .slice A0_2 l0_2.length c0_2], .int .i64 (wrap64 ((wrap64 (4 * x10_2)) + t347))] rfl ?_; (with_reducible refine (impl_endOf.calls a0_0 a0_1 _ _ l0_2 (wrap64 ((wrap64 (4 * x10_2)) + t347)) t353 _ ?side1 HC0_2.out A62.out).mono ?_); (case side1 => exact cb_ HR0_2.out HB.out); rintro e w74 ⟨rfl, hb⟩; refine ⟨_, rfl, ?_⟩; replace HO352 := Aside0.mk (Kd.R_below (ra_ HO352.out) hb); replace BK339 := Aside0.mk (bk_ BK339.out hb); replace BK340 := Aside0.mk (bk_ BK340.out hb); replace HB := Aside0.mk (bs_ HB.out hb); (try clear hb)))
           go_roundg k2
           case measure => have := HJ4.out; have := HK2.out; omega
           case rel => exact ⟨(y350), (t353), ef_, H', ⟨by have := HJ4.out; have := HK2.out; omega⟩, ⟨by (with_reducible repeat (first | apply Kd.R_alloc | apply Kd.R_drewN | apply Kd.R_drew)); exact HO352.out⟩, ⟨bq_ BK339.out⟩, ⟨bq_ BK340.out⟩, ⟨bb_ HB.out⟩⟩
          ·rw [if_neg c61] at H
           exact absurd H (by simp)
        ·replace c49 := Bool.eq_false_iff.mpr c49
         subst c49
         rw [if_neg (show ¬ (false = true) by decide)] at H
         obtain rfl := Option.some.inj H
         have hnb75 := NB339_340.out
         have hnc75 := NB340_339.out
         exact impl_WalkTable.e1

end Go.Proofs.Ythmfjdanmbcgbaa.PFnExactArrivedFlits
-- thin
