/- Each function that the law comes to, as a plain function, with the proof that the call in the model gives what that function says (written by a program of this session out of the translation). No condition. -/
import Derived.Test.YtjialkmfmpkjgaaPFnRanksXYx0
import Derived.Test.YtjialkmfmpkjgaaPFnRanksXYx1
import Derived.Test.YtjialkmfmpkjgaaPFnRanksXYx3
import Derived.Test.YtjialkmfmpkjgaaPFnRanksXYx5
namespace Go.Proofs.Ytjialkmfmpkjgaa.PFnRanksXY
open Go.RowKit Go.Proofs.YtjialkmfmpkjgaaW.PrintWords Go.Proofs.YtjialkmfmpkjgaaW.PrintLast Go.Proofs.YtjialkmfmpkjgaaW.PrintMore
attribute [local go_sem] max2_int min2_int max_two min_two max_three min_three max_four min_four   -- for this text's walks alone
set_option linter.unusedVariables false
set_option linter.unusedSimpArgs false

/-! ### impl_RankRule: function 35 -/
def impl_RankRule.j0 : Nat → Int → Bool → Int → Int → Option (Int)
 | 0, _, _, _, _ => none
 | k + 1, x2, x21, x240000, x240001 => if x21 = true then (some (-1)) else ((impl_ColumnOf.f x240000 x240001 (wrap64 (Int.tdiv x2 4))).bind fun t242 => ((impl_RowOf.f x240000 x240001 (wrap64 (Int.tdiv x2 4))).bind fun t243 => (if (Int.tmod x2 4) = 1 then (some t242) else (if (Int.tmod x2 4) = 3 then (some (wrap64 ((wrap64 (x240000 - 1)) - t242))) else (if (Int.tmod x2 4) = 2 then (some (wrap64 (10 + t243))) else (some (wrap64 ((wrap64 ((wrap64 (10 + x240001)) - 1)) - t243))))))))
def impl_RankRule.f (k : Nat) (a0_0 : Int) (a0_1 : Int) (a1 : Int) (a2 : Int) : Option (Int) := (impl_GridOk.f a0_0 a0_1).bind fun t240 => (if t240 = true then (if a1 = 1 then ((impl_leads.f a0_0 a0_1 a2).bind fun t241 => (impl_RankRule.j0 k a2 (!t241) a0_0 a0_1)) else (impl_RankRule.j0 k a2 true a0_0 a0_1)) else (impl_RankRule.j0 k a2 true a0_0 a0_1))
theorem impl_RankRule.mono_l : ∀ k, (∀ y0 y1 y2 y3, LeO (impl_RankRule.j0 k y0 y1 y2 y3) (impl_RankRule.j0 (k + 1) y0 y1 y2 y3))
 | 0 => fun _ _ _ _ r h => by simp [impl_RankRule.j0] at h
 | k + 1 => by
  have ih0 := impl_RankRule.mono_l k
  ·intro y0 y1 y2 y3
   unfold impl_RankRule.j0
   repeat' first
   | (with_reducible exact ih0 _ _ _ _)
   | (with_reducible exact LeO.refl _)
   | (with_reducible exact LeO.none _)
   | (with_reducible refine LeO.ite ?_ ?_)
   | (with_reducible refine LeO.bind ?_ (fun _ => ?_))
   | exact ih0 _ _ _ _
   | exact LeO.none _
   | refine LeO.ite ?_ ?_
   | refine LeO.bind ?_ (fun _ => ?_)
theorem impl_RankRule.mono : ∀ a0 a1 a2 a3 k, LeO (impl_RankRule.f k a0 a1 a2 a3) (impl_RankRule.f (k + 1) a0 a1 a2 a3) := by
 intro a0 a1 a2 a3 k
 have ih0 := impl_RankRule.mono_l k
 unfold impl_RankRule.f
 repeat' first
   | (with_reducible exact ih0 _ _ _ _)
   | (with_reducible exact LeO.refl _)
   | (with_reducible exact LeO.none _)
   | (with_reducible refine LeO.ite ?_ ?_)
   | (with_reducible refine LeO.bind ?_ (fun _ => ?_))
   | exact ih0 _ _ _ _
   | exact LeO.none _
   | refine LeO.ite ?_ ?_
   | refine LeO.bind ?_ (fun _ => ?_)
def impl_RankRule.T3 : Bool × List (List Nat × List Nat) := (true, [([], []), ([], []), ([1], [1]), ([0, 2], [0, 2]), ([], []), ([], []), ([5], [5]), ([4, 6, 3], [4, 6]), ([3, 7, 0, 1, 2, 3], [3]), ([7, 8, 0, 1, 2, 3, 4, 5, 6, 7, 8], [7])])
def impl_RankRule.B3 : List Nat := [0, 0, 2, 7, 0, 0, 32, 127, 255, 511]
theorem impl_RankRule.tab3 : rtab .any (opsOf Try.f35 3) = impl_RankRule.T3 := by kernel_rfl
theorem impl_RankRule.bits3 : waitsOk impl_RankRule.T3.2 impl_RankRule.B3 = true := by kernel_rfl
theorem impl_RankRule.e0 {P : Prop} (h : P := by
 obtain ⟨hcz_0, hcz_1, hfz_0, hfz_1⟩ := cz2_ BK239.out
 go_wp2_with (first | ((with_reducible refine gate_callee (f := 55) rfl ?_); refine gm_ (some 10) Try.func55 #[.agg #[.int .i64 a0_0, .int .i64 a0_1]] rfl ?_; (with_reducible refine (impl_GridOk.calls a0_0 a0_1 _ _ A6.out).mono ?_); rintro e w_0 ⟨rfl, hb⟩; refine ⟨_, rfl, ?_⟩; replace BK239 := Aside0.mk (bk_ BK239.out hb); replace HB := Aside0.mk (bs_ HB.out hb); (try clear hb)))
 go_meet
 case rel => exact ⟨_, (true), ef_, H', ⟨kq_⟩, ⟨bq_ BK239.out⟩, ⟨bb_ HB.out⟩⟩) : P := h
theorem impl_RankRule.e1 {P : Prop} (h : P := by
 try go_wp2
 have n0_ := Aside0.mk (blk_drew BK239.out)
 have n1_ := Aside0.mk (below_drew1 HB.out)
 clear BK239
 clear HB
 have BK239 := n0_
 have HB := n1_
 clear n0_ n1_
 refine start_ (n := 10) (S := fun w' => w'.cell? ⟨gb239, 0, none⟩ = some (.int .i64 a0_0) ∧ w'.cell? ⟨gb239, 1, none⟩ = some (.int .i64 a0_1)) (ds := []) #[false, false, false, false, false, false, false, false, false, false] (by kernel_rfl) rfl rfl ⟨(blk_cell BK239.out 0).trans rfl, (blk_cell BK239.out 1).trans rfl⟩ (fun hHeld => ?_); refine with_tabW impl_RankRule.tab3 impl_RankRule.bits3 (fun HT_ HW_ => ?_)
 generalize wc.drew = w_0 at BK239 HB hHeld ⊢
 refine pu_ 1 23 (bt_ 10 2) HT_ ?_
 refine pu_ 2 24 (bt_ 10 6) HT_ ?_
 refine pu_ 5 27 (bt_ 10 38) HT_ ?_
 refine pu_ 6 28 (bt_ 10 102) HT_ ?_
 refine take_ (i := 0) (N := some 22) (v := ?_) (a' := ?_) (bt_ 10 103) rfl rfl (take_ofW HT_.out HW_.out (by kernel_rfl)) (fun _ _ _ h => h) (Or.inl ⟨by rfl, ?_⟩) hHeld ?_ ?_
 rotate_left
 ·rintro w' ⟨s0, s1⟩
  go_simp
  with_reducible rfl
 rotate_left
 ·simp only [Act.put, List.setIfInBounds_toArray, List.set_cons_zero, List.set_cons_succ, i64_w, i32_w]
  rfl
 refine take_ (i := 4) (N := some 26) (v := ?_) (a' := ?_) (bt_ 10 119) rfl rfl (take_ofW HT_.out HW_.out (by kernel_rfl)) (fun _ _ _ h => h) (Or.inl ⟨by rfl, ?_⟩) hHeld ?_ ?_
 rotate_left
 ·rintro w' ⟨s0, s1⟩
  go_simp
  with_reducible rfl
 rotate_left
 ·simp only [Act.put, List.setIfInBounds_toArray, List.set_cons_zero, List.set_cons_succ, i64_w, i32_w]
  rfl
 refine one_ (i := 3) (N := some 25) (bt_ 10 127) rfl rfl (one_of HT_.out (by kernel_rfl)) (by decide) (fun K hK => ?_)
 refine goes_ Try.func63 (by kernel_rfl) rfl #[.agg #[.int .i64 a0_0, .int .i64 a0_1], .int .i64 (wrap64 (Int.tdiv a2 4))] (by rfl) rfl rfl (by (try simp only [List.map_toArray, List.map_cons, List.map_nil]); first | done | rfl | (simp only [List.length_drop, List.length_take]; rfl)) ?_
 with_reducible refine (impl_ColumnOf.calls a0_0 a0_1 (wrap64 (Int.tdiv a2 4)) t242 _ A19.out).mono ?_
 rintro e w_0 ⟨rfl, hb⟩
 refine ⟨_, rfl, ?_⟩
 have n0_ := Aside0.mk (bk_ BK239.out hb)
 have n1_ := Aside0.mk (bs_ HB.out hb)
 clear BK239
 clear HB
 have BK239 := n0_
 have HB := n1_
 clear n0_ n1_
 (try clear hb)
 (try clear hb2)
 (try clear hk)
 (try clear hi)
 refine hK.out _ _ ⟨(blk_cell BK239.out 0).trans rfl, (blk_cell BK239.out 1).trans rfl⟩ (fun hHeld => ?_)
 clear hK K
 refine norm_ (a' := ?_) ?_ ?_
 rotate_left
 ·show Act.put _ (some 25) _ = _
  simp only [Act.put, List.setIfInBounds_toArray, List.set_cons_zero, List.set_cons_succ, i64_w, i32_w]
  rfl
 refine one_ (i := 7) (N := some 29) (bt_ 10 255) rfl rfl (one_of HT_.out (by kernel_rfl)) (by decide) (fun K hK => ?_)
 refine goes_ Try.func64 (by kernel_rfl) rfl #[.agg #[.int .i64 a0_0, .int .i64 a0_1], .int .i64 (wrap64 (Int.tdiv a2 4))] (by rfl) rfl rfl (by (try simp only [List.map_toArray, List.map_cons, List.map_nil]); first | done | rfl | (simp only [List.length_drop, List.length_take]; rfl)) ?_
 with_reducible refine (impl_RowOf.calls a0_0 a0_1 (wrap64 (Int.tdiv a2 4)) t243 _ A20.out).mono ?_
 rintro e w_0 ⟨rfl, hb⟩
 refine ⟨_, rfl, ?_⟩
 have n0_ := Aside0.mk (bk_ BK239.out hb)
 have n1_ := Aside0.mk (bs_ HB.out hb)
 clear BK239
 clear HB
 have BK239 := n0_
 have HB := n1_
 clear n0_ n1_
 (try clear hb)
 (try clear hb2)
 (try clear hk)
 (try clear hi)
 refine hK.out _ _ ⟨(blk_cell BK239.out 0).trans rfl, (blk_cell BK239.out 1).trans rfl⟩ (fun hHeld => ?_)
 clear hK K
 refine norm_ (a' := ?_) ?_ ?_
 rotate_left
 ·show Act.put _ (some 29) _ = _
  simp only [Act.put, List.setIfInBounds_toArray, List.set_cons_zero, List.set_cons_succ, i64_w, i32_w]
  rfl
 refine pu_ 8 7 (bt_ 10 511) HT_ ?_
 refine pu_ 9 8 (bt_ 10 1023) HT_ ?_
 refine done_ (done_of HT_.out (by kernel_rfl)) ?_
 try go_wp2
 go_ret
 exact ⟨fin_, bb_ HB.out⟩) : P := h
theorem impl_RankRule.e2 {P : Prop} (h : P := by
 try go_wp2
 have n0_ := Aside0.mk (blk_drew BK239.out)
 have n1_ := Aside0.mk (below_drew1 HB.out)
 clear BK239
 clear HB
 have BK239 := n0_
 have HB := n1_
 clear n0_ n1_
 refine start_ (n := 10) (S := fun w' => w'.cell? ⟨gb239, 0, none⟩ = some (.int .i64 a0_0) ∧ w'.cell? ⟨gb239, 1, none⟩ = some (.int .i64 a0_1)) (ds := []) #[false, false, false, false, false, false, false, false, false, false] (by kernel_rfl) rfl rfl ⟨(blk_cell BK239.out 0).trans rfl, (blk_cell BK239.out 1).trans rfl⟩ (fun hHeld => ?_); refine with_tabW impl_RankRule.tab3 impl_RankRule.bits3 (fun HT_ HW_ => ?_)
 generalize wc.drew = w_0 at BK239 HB hHeld ⊢
 refine pu_ 1 23 (bt_ 10 2) HT_ ?_
 refine pu_ 2 24 (bt_ 10 6) HT_ ?_
 refine pu_ 5 27 (bt_ 10 38) HT_ ?_
 refine pu_ 6 28 (bt_ 10 102) HT_ ?_
 refine take_ (i := 0) (N := some 22) (v := ?_) (a' := ?_) (bt_ 10 103) rfl rfl (take_ofW HT_.out HW_.out (by kernel_rfl)) (fun _ _ _ h => h) (Or.inl ⟨by rfl, ?_⟩) hHeld ?_ ?_
 rotate_left
 ·rintro w' ⟨s0, s1⟩
  go_simp
  with_reducible rfl
 rotate_left
 ·simp only [Act.put, List.setIfInBounds_toArray, List.set_cons_zero, List.set_cons_succ, i64_w, i32_w]
  rfl
 refine take_ (i := 4) (N := some 26) (v := ?_) (a' := ?_) (bt_ 10 119) rfl rfl (take_ofW HT_.out HW_.out (by kernel_rfl)) (fun _ _ _ h => h) (Or.inl ⟨by rfl, ?_⟩) hHeld ?_ ?_
 rotate_left
 ·rintro w' ⟨s0, s1⟩
  go_simp
  with_reducible rfl
 rotate_left
 ·simp only [Act.put, List.setIfInBounds_toArray, List.set_cons_zero, List.set_cons_succ, i64_w, i32_w]
  rfl
 refine one_ (i := 3) (N := some 25) (bt_ 10 127) rfl rfl (one_of HT_.out (by kernel_rfl)) (by decide) (fun K hK => ?_)
 refine goes_ Try.func63 (by kernel_rfl) rfl #[.agg #[.int .i64 a0_0, .int .i64 a0_1], .int .i64 (wrap64 (Int.tdiv a2 4))] (by rfl) rfl rfl (by (try simp only [List.map_toArray, List.map_cons, List.map_nil]); first | done | rfl | (simp only [List.length_drop, List.length_take]; rfl)) ?_
 with_reducible refine (impl_ColumnOf.calls a0_0 a0_1 (wrap64 (Int.tdiv a2 4)) t242 _ A19.out).mono ?_
 rintro e w_0 ⟨rfl, hb⟩
 refine ⟨_, rfl, ?_⟩
 have n0_ := Aside0.mk (bk_ BK239.out hb)
 have n1_ := Aside0.mk (bs_ HB.out hb)
 clear BK239
 clear HB
 have BK239 := n0_
 have HB := n1_
 clear n0_ n1_
 (try clear hb)
 (try clear hb2)
 (try clear hk)
 (try clear hi)
 refine hK.out _ _ ⟨(blk_cell BK239.out 0).trans rfl, (blk_cell BK239.out 1).trans rfl⟩ (fun hHeld => ?_)
 clear hK K
 refine norm_ (a' := ?_) ?_ ?_
 rotate_left
 ·show Act.put _ (some 25) _ = _
  simp only [Act.put, List.setIfInBounds_toArray, List.set_cons_zero, List.set_cons_succ, i64_w, i32_w]
  rfl
 refine one_ (i := 7) (N := some 29) (bt_ 10 255) rfl rfl (one_of HT_.out (by kernel_rfl)) (by decide) (fun K hK => ?_)
 refine goes_ Try.func64 (by kernel_rfl) rfl #[.agg #[.int .i64 a0_0, .int .i64 a0_1], .int .i64 (wrap64 (Int.tdiv a2 4))] (by rfl) rfl rfl (by (try simp only [List.map_toArray, List.map_cons, List.map_nil]); first | done | rfl | (simp only [List.length_drop, List.length_take]; rfl)) ?_
 with_reducible refine (impl_RowOf.calls a0_0 a0_1 (wrap64 (Int.tdiv a2 4)) t243 _ A20.out).mono ?_
 rintro e w_0 ⟨rfl, hb⟩
 refine ⟨_, rfl, ?_⟩
 have n0_ := Aside0.mk (bk_ BK239.out hb)
 have n1_ := Aside0.mk (bs_ HB.out hb)
 clear BK239
 clear HB
 have BK239 := n0_
 have HB := n1_
 clear n0_ n1_
 (try clear hb)
 (try clear hb2)
 (try clear hk)
 (try clear hi)
 refine hK.out _ _ ⟨(blk_cell BK239.out 0).trans rfl, (blk_cell BK239.out 1).trans rfl⟩ (fun hHeld => ?_)
 clear hK K
 refine norm_ (a' := ?_) ?_ ?_
 rotate_left
 ·show Act.put _ (some 29) _ = _
  simp only [Act.put, List.setIfInBounds_toArray, List.set_cons_zero, List.set_cons_succ, i64_w, i32_w]
  rfl
 refine pu_ 8 7 (bt_ 10 511) HT_ ?_
 refine pu_ 9 8 (bt_ 10 1023) HT_ ?_
 refine done_ (done_of HT_.out (by kernel_rfl)) ?_
 obtain ⟨hcz_0, hcz_1, hfz_0, hfz_1⟩ := cz2_ BK239.out
 try go_wp2
 go_ret
 exact ⟨fin_, bb_ HB.out⟩) : P := h
set_option maxHeartbeats 8000000 in
set_option maxRecDepth 100000 in
theorem impl_RankRule.calls (k : Nat) (a0_0 : Int) (a0_1 : Int) (a1 : Int) (a2 : Int) (r : Int) (w : World) (h : impl_RankRule.f k a0_0 a0_1 a1 a2 = some r) :
  Calls Try.prog 35 #[.agg #[.int .i64 a0_0, .int .i64 a0_1], .int .i64 a1, .int .i64 a2] w fun e w' => e = .returned (.int .i64 r) ∧ Below w.heap.size w w' := by
 have hu38 := Try.underlying38
 have HB := Aside0.mk (Below.refl w.heap.size w)
 have H : ((impl_GridOk.f a0_0 a0_1).bind fun t240 => (if t240 = true then (if a1 = 1 then ((impl_leads.f a0_0 a0_1 a2).bind fun t241 => (impl_RankRule.j0 k a2 (!t241) a0_0 a0_1)) else (impl_RankRule.j0 k a2 true a0_0 a0_1)) else (impl_RankRule.j0 k a2 true a0_0 a0_1))) = some r := h
 clear h
 have HC4 := Aside0.mk H
 clear H
 go_enter Try.func35, Try.ntmps35
 go_upto_region 1 with (first | ((with_reducible refine gate_dst (N := 3) rfl ?_); refine box_event ?hg (N := 3) ?hd (cs := #[.int .i64 a0_0, .int .i64 a0_1]) (t := 38) ?hr ?_; (case hd => rfl); (case hg => rfl); (case hr => first | (go_simp; done) | (go_simp; rfl)); intro gb239 hg w5 hbox hb; have BK239 := Aside0.mk (hbox); have GW239 := Aside0.mk ((by rw [hg]; exact (bz_ HB.out) : w.heap.size ≤ gb239)); have GE239 := Aside0.mk ((by rw [hg]; exact (bz_ HB.out) : w.heap.size ≤ gb239)); replace HB := Aside0.mk (bs_ HB.out hb); clear hb hbox hg))
 (try simp only [Act.put, List.setIfInBounds_toArray, List.set_cons_zero, List.set_cons_succ])
 go_cut [21] (fun v21 wc => ∃ (kq : Nat) (x21_3 : Bool), v21 = .bool x21_3 ∧ Aside0 (impl_RankRule.j0 kq a2 x21_3 a0_0 a0_1 = some r) ∧ Aside0 (kq ≤ k) ∧ Aside0 (wc.heap[gb239]? = some (.cells #[.int .i64 a0_0, .int .i64 a0_1] 38 (0, 0))) ∧ Aside0 (Below w.heap.size w wc))
 case first =>
  have H := HC4.out
  clear HC4
  replace H := Option.bind_eq_some_iff.mp H
  obtain ⟨t240, A60, H⟩ := H
  try dsimp only at H
  have A6 := Aside0.mk A60
  clear A60
  by_cases c7 : t240 = true
  ·subst c7
   rw [if_pos rfl] at H
   by_cases c8 : a1 = 1
   ·rw [if_pos c8] at H
    have c8b0 : (a1 == 1) = true := beq_iff_eq.mpr c8
    have c8b1 : (a1 != 1) = false := bne_eq_false_iff_eq.mpr c8
    clear c8
    (first | rw [c8b0] | (simp only [i64_w, i32_w]; rw [c8b0]) | skip)
    replace H := Option.bind_eq_some_iff.mp H
    obtain ⟨t241, A90, H⟩ := H
    try dsimp only at H
    have A9 := Aside0.mk A90
    clear A90
    have H' := Aside0.mk H
    clear H
    obtain ⟨hcz10_0, hcz10_1, hfz10_0, hfz10_1⟩ := cz2_ BK239.out
    go_wp2_with (first | ((with_reducible refine gate_callee (f := 55) rfl ?_); refine gm_ (some 10) Try.func55 #[.agg #[.int .i64 a0_0, .int .i64 a0_1]] rfl ?_; (with_reducible refine (impl_GridOk.calls a0_0 a0_1 true _ A6.out).mono ?_); rintro e w11 ⟨rfl, hb⟩; refine ⟨_, rfl, ?_⟩; replace BK239 := Aside0.mk (bk_ BK239.out hb); replace HB := Aside0.mk (bs_ HB.out hb); (try clear hb); obtain ⟨hcz12_0, hcz12_1, hfz12_0, hfz12_1⟩ := cz2_ BK239.out) | (go_at_call 62; (with_reducible refine (impl_leads.calls a0_0 a0_1 a2 t241 _ A9.out).mono ?_); rintro e w13 ⟨rfl, hb⟩; replace BK239 := Aside0.mk (bk_ BK239.out hb); replace HB := Aside0.mk (bs_ HB.out hb); (try clear hb)))
    go_meet
    case rel => exact ⟨_, (!t241), ef_, H', ⟨kq_⟩, ⟨bq_ BK239.out⟩, ⟨bb_ HB.out⟩⟩
   ·rw [if_neg c8] at H
    have c8b0 : (a1 == 1) = false := beq_eq_false_iff_ne.mpr c8
    have c8b1 : (a1 != 1) = true := bne_iff_ne.mpr c8
    (first | rw [c8b0] | (simp only [i64_w, i32_w]; rw [c8b0]) | skip)
    have H' := Aside0.mk H
    clear H
    exact impl_RankRule.e0
  ·replace c7 := Bool.eq_false_iff.mpr c7
   subst c7
   rw [if_neg (show ¬ (false = true) by decide)] at H
   have H' := Aside0.mk H
   clear H
   exact impl_RankRule.e0
 case rest =>
  clear HC4
  obtain ⟨kq, x21_3, rfl, HA, HJ3, BK239, HB⟩ := hcut
  cases kq with
  | zero => exact absurd HA.out (by simp [impl_RankRule.j0])
  | succ kj3 =>
   have H := HA.out
   clear HA
   simp only [impl_RankRule.j0] at H
   by_cases c18 : x21_3 = true
   ·subst c18
    rw [if_pos rfl] at H
    obtain rfl := Option.some.inj H
    go_wp2
    go_ret
    exact ⟨fin_, bb_ HB.out⟩
   ·replace c18 := Bool.eq_false_iff.mpr c18
    subst c18
    rw [if_neg (show ¬ (false = true) by decide)] at H
    replace H := Option.bind_eq_some_iff.mp H
    obtain ⟨t242, A190, H⟩ := H
    try dsimp only at H
    have A19 := Aside0.mk A190
    clear A190
    replace H := Option.bind_eq_some_iff.mp H
    obtain ⟨t243, A200, H⟩ := H
    try dsimp only at H
    have A20 := Aside0.mk A200
    clear A200
    by_cases c21 : (Int.tmod a2 4) = 1
    ·rw [if_pos c21] at H
     have c21b0 : ((Int.tmod a2 4) == 1) = true := beq_iff_eq.mpr c21
     have c21b1 : ((Int.tmod a2 4) != 1) = false := bne_eq_false_iff_eq.mpr c21
     clear c21
     obtain rfl := Option.some.inj H
     exact impl_RankRule.e1
    ·rw [if_neg c21] at H
     have c21b0 : ((Int.tmod a2 4) == 1) = false := beq_eq_false_iff_ne.mpr c21
     have c21b1 : ((Int.tmod a2 4) != 1) = true := bne_iff_ne.mpr c21
     by_cases c25 : (Int.tmod a2 4) = 3
     ·rw [if_pos c25] at H
      have c25b0 : ((Int.tmod a2 4) == 3) = true := beq_iff_eq.mpr c25
      have c25b1 : ((Int.tmod a2 4) != 3) = false := bne_eq_false_iff_eq.mpr c25
      clear c25
      obtain rfl := Option.some.inj H
      exact impl_RankRule.e2
     ·rw [if_neg c25] at H
      have c25b0 : ((Int.tmod a2 4) == 3) = false := beq_eq_false_iff_ne.mpr c25
      have c25b1 : ((Int.tmod a2 4) != 3) = true := bne_iff_ne.mpr c25
      by_cases c30 : (Int.tmod a2 4) = 2
      ·rw [if_pos c30] at H
       have c30b0 : ((Int.tmod a2 4) == 2) = true := beq_iff_eq.mpr c30
       have c30b1 : ((Int.tmod a2 4) != 2) = false := bne_eq_false_iff_eq.mpr c30
       clear c30
       obtain rfl := Option.some.inj H
       exact impl_RankRule.e1
      ·rw [if_neg c30] at H
       have c30b0 : ((Int.tmod a2 4) == 2) = false := beq_eq_false_iff_ne.mpr c30
       have c30b1 : ((Int.tmod a2 4) != 2) = true := bne_iff_ne.mpr c30
       obtain rfl := Option.some.inj H
       exact impl_RankRule.e2

end Go.Proofs.Ytjialkmfmpkjgaa.PFnRanksXY
-- thin
