/- The law's functions as plain functions, and their calls. No condition. -/
import Derived.Test.YtimdefbpoddoaaaGreatPFnExactCheckClassesx0
import Derived.Test.YtimdefbpoddoaaaGreatPFnExactCheckClassesx4
import Derived.Test.YtimdefbpoddoaaaGreatPFnExactCheckClassesx7
import Derived.Test.YtimdefbpoddoaaaGreatPFnExactCheckClassesx9
namespace Go.Proofs.YtimdefbpoddoaaaGreat.PFnExactCheckClasses
open Go.RowKit Go.Proofs.YtimdefbpoddoaaaGreatW.PrintWords Go.Proofs.YtimdefbpoddoaaaGreatW.PrintLast Go.Proofs.YtimdefbpoddoaaaGreatW.PrintMore
attribute [local go_sem] max2_int min2_int max_two min_two max_three min_three max_four min_four
set_option linter.unusedVariables false
set_option maxHeartbeats 8000000
set_option maxRecDepth 100000
set_option linter.unusedSimpArgs false

/-! ### spec_ClassDepends: function 28 -/
def spec_ClassDepends.f (k : Nat) (a0_0 : Int) (a0_1 : Int) (l0_2 : List Int) (l1_0 : List Int) (l1_1 : List Int) : Option ((List (S98))) := (spec_ClassesOk.f k a0_0 a0_1 l0_2 l1_0 l1_1).bind fun t280 => (if t280 = true then ((spec_DependsOf.f k a0_0 a0_1 l0_2 l1_0).bind fun t284 => ((spec_DependsOf.f k a0_0 a0_1 l0_2 l1_1).bind fun t287 => ((spec_ShiftDepends.f k t287 64).bind fun t290 => ((spec_MergeDepends.f k t284 t290).bind fun t293 => (some t293))))) else (some (([] : List (S98)))))
theorem spec_ClassDepends.mono : ∀ a0 a1 a2 a3 a4 k, LeO (spec_ClassDepends.f k a0 a1 a2 a3 a4) (spec_ClassDepends.f (k + 1) a0 a1 a2 a3 a4) := by
 intro a0 a1 a2 a3 a4 k
 unfold spec_ClassDepends.f
 repeat' (with_reducible first | exact spec_ClassesOk.mono .. | exact spec_DependsOf.mono .. | exact spec_MergeDepends.mono .. | exact spec_ShiftDepends.mono .. | exact LeO.refl .. | exact LeO.none .. | refine LeO.ite ?_ ?_ | refine LeO.bind ?_ (fun _ => ?_))
def spec_ClassDepends.T3 : Bool × List (List Nat × List Nat) := (true, [([], []), ([], []), ([1], [1]), ([0, 2], [0, 2]), ([], []), ([], []), ([5], [5]), ([4, 6, 3], [4, 6]), ([7, 7], [7]), ([3, 8, 8], [3, 8]), ([9, 9, 0, 1, 2, 3, 4, 5, 6, 7, 8, 9], [9])])
def spec_ClassDepends.B3 : List Nat := [0, 0, 2, 7, 0, 0, 32, 127, 255, 511, 1023]
theorem spec_ClassDepends.tab3 : rtab .any (opsOf Tryz.f28 3) = spec_ClassDepends.T3 := by kernel_rfl
theorem spec_ClassDepends.bits3 : waitsOk spec_ClassDepends.T3.2 spec_ClassDepends.B3 = true := by kernel_rfl
theorem spec_ClassDepends.calls (k : Nat) (a0_0 : Int) (a0_1 : Int) (A0_2 : Option Addr) (c0_2 : Nat) (l0_2 : List Int) (A1_0 : Option Addr) (c1_0 : Nat) (l1_0 : List Int) (A1_1 : Option Addr) (c1_1 : Nat) (l1_1 : List Int) (r : List (S98)) (w : World) (hr0_2 : Kd.C (Kd.int .i64) w A0_2 l0_2.length l0_2) (hc0_2 : l0_2.length ≤ c0_2) (hr1_0 : Kd.C (Kd.int .i64) w A1_0 l1_0.length l1_0) (hc1_0 : l1_0.length ≤ c1_0) (hr1_1 : Kd.C (Kd.int .i64) w A1_1 l1_1.length l1_1) (hc1_1 : l1_1.length ≤ c1_1) (h : spec_ClassDepends.f k a0_0 a0_1 l0_2 l1_0 l1_1 = some r) :
  Calls Tryz.prog 28 #[.agg #[.int .i64 a0_0, .int .i64 a0_1, .slice A0_2 l0_2.length c0_2], .agg #[.slice A1_0 l1_0.length c1_0, .slice A1_1 l1_1.length c1_1]] w fun e w' => ∃ v0_ : Value, e = .returned (v0_) ∧ Kd.R k98 98 w' w.heap.size (fun _ => True) v0_ r ∧ Below w.heap.size w w' := by
 have hu38 := Tryz.underlying38
 have hu42 := Tryz.underlying42
 have hu40 := Tryz.underlying40
 have HR0_2 := Aside0.mk hr0_2
 have HC0_2 := Aside0.mk hc0_2
 clear hr0_2 hc0_2
 have HR1_0 := Aside0.mk hr1_0
 have HC1_0 := Aside0.mk hc1_0
 clear hr1_0 hc1_0
 have HR1_1 := Aside0.mk hr1_1
 have HC1_1 := Aside0.mk hc1_1
 clear hr1_1 hc1_1
 have HB := Aside0.mk (Below.refl w.heap.size w)
 have H : ((spec_ClassesOk.f k a0_0 a0_1 l0_2 l1_0 l1_1).bind fun t280 => (if t280 = true then ((spec_DependsOf.f k a0_0 a0_1 l0_2 l1_0).bind fun t284 => ((spec_DependsOf.f k a0_0 a0_1 l0_2 l1_1).bind fun t287 => ((spec_ShiftDepends.f k t287 64).bind fun t290 => ((spec_MergeDepends.f k t284 t290).bind fun t293 => (some t293))))) else (some (([] : List (S98)))))) = some r := h
 clear h
 obtain ⟨t280, A3, H⟩ := bi_ H
 by_cases c4 : t280 = true
 ·subst c4
  rw [if_pos rfl] at H
  obtain ⟨t284, A5, H⟩ := bi_ H
  obtain ⟨t287, A6, H⟩ := bi_ H
  obtain ⟨t290, A7, H⟩ := bi_ H
  obtain ⟨t293, A8, H⟩ := bi_ H
  obtain rfl := Option.some.inj H
  go_enter Tryz.func28, Tryz.ntmps28
  try go_wp2_with (first | ((with_reducible refine gate_dst (N := 2) rfl ?_); refine box_event ?hg (N := 2) ?hd (cs := #[.int .i64 a0_0, .int .i64 a0_1, .slice A0_2 l0_2.length c0_2]) (t := 38) ?hr ?_; (case hd => rfl); (case hg => rfl); (case hr => first | (go_simp; done) | (go_simp; rfl)); intro gb278 hg w9 hbox hb; have BK278 := Aside0.mk (hbox); have GW278 := gw_ hg HB; replace HB := hs_ HB hb; clear hb hbox hg) | ((with_reducible refine gate_dst (N := 3) rfl ?_); refine box_event ?hg (N := 3) ?hd (cs := #[.slice A1_0 l1_0.length c1_0, .slice A1_1 l1_1.length c1_1]) (t := 42) ?hr ?_; (case hd => rfl); (case hg => rfl); (case hr => first | (go_simp; done) | (go_simp; rfl)); intro gb279 hg w10 hbox hb; have BK279 := Aside0.mk (hbox); have GW279 := gw_ hg HB; replace HB := hs_ HB hb; have NB278_279 := nl_ hg BK278; have NB279_278 := ng_ hg BK278; replace BK278 := kb_ BK278 hb; clear hb hbox hg; have hnb11 := NB278_279.out; have hnc11 := NB279_278.out; obtain ⟨hcz12_0, hcz12_1, hcz12_2, hfz12_0, hfz12_1, hfz12_2⟩ := cz3_ BK278.out; obtain ⟨hcz13_0, hcz13_1, hfz13_0, hfz13_1⟩ := cz2_ BK279.out) | ((with_reducible refine gate_callee (f := 27) rfl ?_); refine gm_ (some 7) Tryz.func27 #[.agg #[.int .i64 a0_0, .int .i64 a0_1, .slice A0_2 l0_2.length c0_2], .agg #[.slice A1_0 l1_0.length c1_0, .slice A1_1 l1_1.length c1_1]] rfl ?_; (with_reducible refine (spec_ClassesOk.calls k a0_0 a0_1 _ _ l0_2 _ _ l1_0 _ _ l1_1 true _ ?side1 HC0_2.out ?side3 HC1_0.out ?side5 HC1_1.out A3.out).mono ?_); (case side1 => exact cb_ HR0_2.out HB.out); (case side3 => exact cb_ HR1_0.out HB.out); (case side5 => exact cb_ HR1_1.out HB.out); rintro e w14 ⟨rfl, hb⟩; refine ⟨_, rfl, ?_⟩; replace BK278 := kb_ BK278 hb; replace BK279 := kb_ BK279 hb; replace HB := hs_ HB hb; (try clear hb)))
  replace BK278 := Aside0.mk (blk_drew BK278.out)
  replace BK279 := Aside0.mk (blk_drew BK279.out)
  replace HB := Aside0.mk (below_drew1 HB.out)
  refine start_ (n := 11) (S := fun w' => w'.cell? ⟨gb278, 0, none⟩ = some (.int .i64 a0_0) ∧ w'.cell? ⟨gb278, 1, none⟩ = some (.int .i64 a0_1) ∧ w'.cell? ⟨gb278, 2, none⟩ = some (.slice A0_2 l0_2.length c0_2) ∧ w'.cell? ⟨gb279, 0, none⟩ = some (.slice A1_0 l1_0.length c1_0) ∧ w'.cell? ⟨gb279, 1, none⟩ = some (.slice A1_1 l1_1.length c1_1)) (ds := []) #[false, false, false, false, false, false, false, false, false, false, false] (by kernel_rfl) rfl rfl ⟨(blk_cell BK278.out 0).trans rfl, (blk_cell BK278.out 1).trans rfl, (blk_cell BK278.out 2).trans rfl, (blk_cell BK279.out 0).trans rfl, (blk_cell BK279.out 1).trans rfl⟩ (fun hHeld => ?_); refine with_tabW spec_ClassDepends.tab3 spec_ClassDepends.bits3 (fun HT_ HW_ => ?_)
  generalize w14.drew = w15 at BK278 BK279 HB hHeld ⊢
  refine pu_ 1 11 (bt_ 11 2) HT_ ?_
  refine pu_ 5 15 (bt_ 11 34) HT_ ?_
  refine take_ (i := 0) (N := some 10) (v := ?_) (a' := ?_) (bt_ 11 35) rfl rfl (take_ofW HT_.out HW_.out (by kernel_rfl)) (fun _ _ _ h => h) (Or.inl ⟨by rfl, ?_⟩) hHeld ?_ ?_
  rotate_left
  ·rintro w' ⟨s0, s1, s2, s3, s4⟩
   go_simp
   with_reducible rfl
  rotate_left
  ·simp only [Act.put, List.setIfInBounds_toArray, List.set_cons_zero, List.set_cons_succ, i64_w, i32_w]
   rfl
  refine take_ (i := 2) (N := some 12) (v := ?_) (a' := ?_) (bt_ 11 39) rfl rfl (take_ofW HT_.out HW_.out (by kernel_rfl)) (fun _ _ _ h => h) (Or.inl ⟨by rfl, ?_⟩) hHeld ?_ ?_
  rotate_left
  ·rintro w' ⟨s0, s1, s2, s3, s4⟩
   go_simp
   with_reducible rfl
  rotate_left
  ·simp only [Act.put, List.setIfInBounds_toArray, List.set_cons_zero, List.set_cons_succ, i64_w, i32_w]
   rfl
  refine take_ (i := 4) (N := some 14) (v := ?_) (a' := ?_) (bt_ 11 55) rfl rfl (take_ofW HT_.out HW_.out (by kernel_rfl)) (fun _ _ _ h => h) (Or.inl ⟨by rfl, ?_⟩) hHeld ?_ ?_
  rotate_left
  ·rintro w' ⟨s0, s1, s2, s3, s4⟩
   go_simp
   with_reducible rfl
  rotate_left
  ·simp only [Act.put, List.setIfInBounds_toArray, List.set_cons_zero, List.set_cons_succ, i64_w, i32_w]
   rfl
  refine take_ (i := 6) (N := some 16) (v := ?_) (a' := ?_) (bt_ 11 119) rfl rfl (take_ofW HT_.out HW_.out (by kernel_rfl)) (fun _ _ _ h => h) (Or.inl ⟨by rfl, ?_⟩) hHeld ?_ ?_
  rotate_left
  ·rintro w' ⟨s0, s1, s2, s3, s4⟩
   go_simp
   with_reducible rfl
  rotate_left
  ·simp only [Act.put, List.setIfInBounds_toArray, List.set_cons_zero, List.set_cons_succ, i64_w, i32_w]
   rfl
  refine one_ (i := 3) (N := some 13) (bt_ 11 127) rfl rfl (one_of HT_.out (by kernel_rfl)) (by decide) (fun K hK => ?_)
  refine goes_ Tryz.func49 (by kernel_rfl) rfl #[.agg #[.int .i64 a0_0, .int .i64 a0_1, .slice A0_2 l0_2.length c0_2], .agg #[.slice A1_0 l1_0.length c1_0]] (by rfl) rfl rfl (by (try simp only [List.map_toArray, List.map_cons, List.map_nil]); first | done | rfl | (simp only [List.length_drop, List.length_take]; rfl)) ?_
  with_reducible refine (spec_DependsOf.calls k a0_0 a0_1 _ _ l0_2 _ _ l1_0 t284 _ ?side1 ?side2 ?side3 ?side4 A5.out).mono ?_
  (case side1 => exact cb_ HR0_2.out HB.out)
  (case side2 => exact HC0_2.out)
  (case side3 => exact cb_ HR1_0.out HB.out)
  (case side4 => exact HC1_0.out)
  rintro e w16 ⟨v285, rfl, ho0, hb⟩
  refine ⟨_, rfl, ?_⟩
  have HO286 := Aside0.mk (Kd.R_lower ho0 (bz_ HB.out))
  replace BK278 := kb_ BK278 hb
  replace BK279 := kb_ BK279 hb
  replace HB := hs_ HB hb
  (try clear hb)
  (try clear hk)
  (try clear ho0)
  refine hK.out _ _ ⟨(blk_cell BK278.out 0).trans rfl, (blk_cell BK278.out 1).trans rfl, (blk_cell BK278.out 2).trans rfl, (blk_cell BK279.out 0).trans rfl, (blk_cell BK279.out 1).trans rfl⟩ (fun hHeld => ?_)
  clear hK K
  refine norm_ (a' := ?_) ?_ ?_
  rotate_left
  ·show Act.put _ (some 13) _ = _
   simp only [Act.put, List.setIfInBounds_toArray, List.set_cons_zero, List.set_cons_succ, i64_w, i32_w]
   rfl
  refine one_ (i := 7) (N := some 17) (bt_ 11 255) rfl rfl (one_of HT_.out (by kernel_rfl)) (by decide) (fun K hK => ?_)
  refine goes_ Tryz.func49 (by kernel_rfl) rfl #[.agg #[.int .i64 a0_0, .int .i64 a0_1, .slice A0_2 l0_2.length c0_2], .agg #[.slice A1_1 l1_1.length c1_1]] (by rfl) rfl rfl (by (try simp only [List.map_toArray, List.map_cons, List.map_nil]); first | done | rfl | (simp only [List.length_drop, List.length_take]; rfl)) ?_
  with_reducible refine (spec_DependsOf.calls k a0_0 a0_1 _ _ l0_2 _ _ l1_1 t287 _ ?side1 ?side2 ?side3 ?side4 A6.out).mono ?_
  (case side1 => exact cb_ HR0_2.out HB.out)
  (case side2 => exact HC0_2.out)
  (case side3 => exact cb_ HR1_1.out HB.out)
  (case side4 => exact HC1_1.out)
  rintro e w17 ⟨v288, rfl, ho0, hb⟩
  refine ⟨_, rfl, ?_⟩
  have HO289 := Aside0.mk (Kd.R_lower (Kd.R_new' ho0 (rl_ HO286.out)) (bz_ HB.out))
  replace HO286 := re_ HO286 ho0 hb
  replace BK278 := kb_ BK278 hb
  replace BK279 := kb_ BK279 hb
  replace HB := hs_ HB hb
  (try clear hb)
  (try clear hk)
  (try clear ho0)
  obtain ⟨Ao18, co18, eo18⟩ := Kd.R_slice HO289.out
  (first | subst eo18 | (injection eo18 with f1_ f2_ f3_; have f4_ := f1_.symm; have f5_ := f3_.symm; clear f1_ f2_ f3_; subst f4_; subst f5_))
  refine hK.out _ _ ⟨(blk_cell BK278.out 0).trans rfl, (blk_cell BK278.out 1).trans rfl, (blk_cell BK278.out 2).trans rfl, (blk_cell BK279.out 0).trans rfl, (blk_cell BK279.out 1).trans rfl⟩ (fun hHeld => ?_)
  clear hK K
  refine norm_ (a' := ?_) ?_ ?_
  rotate_left
  ·show Act.put _ (some 17) _ = _
   simp only [Act.put, List.setIfInBounds_toArray, List.set_cons_zero, List.set_cons_succ, i64_w, i32_w]
   rfl
  refine one_ (i := 8) (N := some 18) (bt_ 11 511) rfl rfl (one_of HT_.out (by kernel_rfl)) (by decide) (fun K hK => ?_)
  refine goes_ Tryz.func59 (by kernel_rfl) rfl #[.slice Ao18 t287.length co18, .int .i64 64] (by rfl) rfl rfl (by (try simp only [List.map_toArray, List.map_cons, List.map_nil]); first | done | rfl | (simp only [List.length_drop, List.length_take]; rfl)) ?_
  with_reducible refine (spec_ShiftDepends.calls k _ _ t287 64 t290 _ ?side1 ?side2 A7.out).mono ?_
  (case side1 => exact rr_ HO289)
  (case side2 => exact (Kd.R_reads' HO289.out).2.1)
  rintro e w19 ⟨v291, rfl, ho0, hb⟩
  refine ⟨_, rfl, ?_⟩
  have HO292 := Aside0.mk (Kd.R_lower (Kd.R_new' (Kd.R_new' ho0 (rl_ HO286.out)) (rl_ HO289.out)) (bz_ HB.out))
  replace HO286 := re_ HO286 ho0 hb
  replace HO289 := re_ HO289 ho0 hb
  replace BK278 := kb_ BK278 hb
  replace BK279 := kb_ BK279 hb
  replace HB := hs_ HB hb
  (try clear hb)
  (try clear hk)
  (try clear ho0)
  obtain ⟨Ao20, co20, eo20⟩ := Kd.R_slice HO286.out
  (first | subst eo20 | (injection eo20 with f1_ f2_ f3_; have f4_ := f1_.symm; have f5_ := f3_.symm; clear f1_ f2_ f3_; subst f4_; subst f5_))
  obtain ⟨Ao21, co21, eo21⟩ := Kd.R_slice HO292.out
  (first | subst eo21 | (injection eo21 with f1_ f2_ f3_; have f4_ := f1_.symm; have f5_ := f3_.symm; clear f1_ f2_ f3_; subst f4_; subst f5_))
  refine hK.out _ _ ⟨(blk_cell BK278.out 0).trans rfl, (blk_cell BK278.out 1).trans rfl, (blk_cell BK278.out 2).trans rfl, (blk_cell BK279.out 0).trans rfl, (blk_cell BK279.out 1).trans rfl⟩ (fun hHeld => ?_)
  clear hK K
  refine norm_ (a' := ?_) ?_ ?_
  rotate_left
  ·show Act.put _ (some 18) _ = _
   simp only [Act.put, List.setIfInBounds_toArray, List.set_cons_zero, List.set_cons_succ, i64_w, i32_w]
   rfl
  refine one_ (i := 9) (N := some 19) (bt_ 11 1023) rfl rfl (one_of HT_.out (by kernel_rfl)) (by decide) (fun K hK => ?_)
  refine goes_ Tryz.func58 (by kernel_rfl) rfl #[.slice Ao20 t284.length co20, .slice Ao21 t290.length co21] (by rfl) rfl rfl (by (try simp only [List.map_toArray, List.map_cons, List.map_nil]); first | done | rfl | (simp only [List.length_drop, List.length_take]; rfl)) ?_
  with_reducible refine (spec_MergeDepends.calls k _ _ t284 _ _ t290 t293 _ ?side1 ?side2 ?side3 ?side4 A8.out).mono ?_
  (case side1 => exact rr_ HO286)
  (case side2 => exact (Kd.R_reads' HO286.out).2.1)
  (case side3 => exact rr_ HO292)
  (case side4 => exact (Kd.R_reads' HO292.out).2.1)
  rintro e w22 ⟨v294, rfl, ho0, hb⟩
  refine ⟨_, rfl, ?_⟩
  have HO295 := Aside0.mk (Kd.R_lower (Kd.R_new' (Kd.R_new' (Kd.R_new' ho0 (rl_ HO286.out)) (rl_ HO289.out)) (rl_ HO292.out)) (bz_ HB.out))
  replace HO286 := re_ HO286 ho0 hb
  replace HO289 := re_ HO289 ho0 hb
  replace HO292 := re_ HO292 ho0 hb
  replace BK278 := kb_ BK278 hb
  replace BK279 := kb_ BK279 hb
  replace HB := hs_ HB hb
  (try clear hb)
  (try clear hk)
  (try clear ho0)
  refine hK.out _ _ ⟨(blk_cell BK278.out 0).trans rfl, (blk_cell BK278.out 1).trans rfl, (blk_cell BK278.out 2).trans rfl, (blk_cell BK279.out 0).trans rfl, (blk_cell BK279.out 1).trans rfl⟩ (fun hHeld => ?_)
  clear hK K
  refine norm_ (a' := ?_) ?_ ?_
  rotate_left
  ·show Act.put _ (some 19) _ = _
   simp only [Act.put, List.setIfInBounds_toArray, List.set_cons_zero, List.set_cons_succ, i64_w, i32_w]
   rfl
  refine pu_ 10 4 (bt_ 11 2047) HT_ ?_
  refine done_ (done_of HT_.out (by kernel_rfl)) ?_
  try go_wp2
  go_ret
  exact ⟨_, fin_, by (with_reducible repeat (first | apply Kd.R_alloc | apply Kd.R_drewN | apply Kd.R_drew)); exact Kd.R_mono HO295.out (fun _ hk => trivial), bb_ HB.out⟩
 ·replace c4 := Bool.eq_false_iff.mpr c4
  subst c4
  rw [if_neg (show ¬ (false = true) by decide)] at H
  obtain ⟨y281, hy281⟩ : ∃ y_ : List (S98), y_ = (([] : List (S98))) := ⟨_, rfl⟩
  replace H : (some y281) = some r := by first | (rw [hy281]; with_reducible exact H) | (have H2_ := (Option.bind_some _ _).symm.trans H; rw [hy281]; with_reducible exact H2_) | (have H2_ := (Option.bind_some _ _).symm.trans H; with_reducible exact H2_) | with_reducible exact H | (rw [hy281]; exact H) | exact H
  have Ny281 := Aside0.mk hy281
  clear hy281
  obtain rfl := Option.some.inj H
  go_enter Tryz.func28, Tryz.ntmps28
  go_wp2_with (first | ((with_reducible refine gate_dst (N := 2) rfl ?_); refine box_event ?hg (N := 2) ?hd (cs := #[.int .i64 a0_0, .int .i64 a0_1, .slice A0_2 l0_2.length c0_2]) (t := 38) ?hr ?_; (case hd => rfl); (case hg => rfl); (case hr => first | (go_simp; done) | (go_simp; rfl)); intro gb278 hg w23 hbox hb; have BK278 := Aside0.mk (hbox); have GW278 := gw_ hg HB; replace HB := hs_ HB hb; clear hb hbox hg) | ((with_reducible refine gate_dst (N := 3) rfl ?_); refine box_event ?hg (N := 3) ?hd (cs := #[.slice A1_0 l1_0.length c1_0, .slice A1_1 l1_1.length c1_1]) (t := 42) ?hr ?_; (case hd => rfl); (case hg => rfl); (case hr => first | (go_simp; done) | (go_simp; rfl)); intro gb279 hg w24 hbox hb; have BK279 := Aside0.mk (hbox); have GW279 := gw_ hg HB; replace HB := hs_ HB hb; have NB278_279 := nl_ hg BK278; have NB279_278 := ng_ hg BK278; replace BK278 := kb_ BK278 hb; clear hb hbox hg; have hnb25 := NB278_279.out; have hnc25 := NB279_278.out; obtain ⟨hcz26_0, hcz26_1, hcz26_2, hfz26_0, hfz26_1, hfz26_2⟩ := cz3_ BK278.out; obtain ⟨hcz27_0, hcz27_1, hfz27_0, hfz27_1⟩ := cz2_ BK279.out) | ((with_reducible refine gate_callee (f := 27) rfl ?_); refine gm_ (some 7) Tryz.func27 #[.agg #[.int .i64 a0_0, .int .i64 a0_1, .slice A0_2 l0_2.length c0_2], .agg #[.slice A1_0 l1_0.length c1_0, .slice A1_1 l1_1.length c1_1]] rfl ?_; (with_reducible refine (spec_ClassesOk.calls k a0_0 a0_1 _ _ l0_2 _ _ l1_0 _ _ l1_1 false _ ?side1 HC0_2.out ?side3 HC1_0.out ?side5 HC1_1.out A3.out).mono ?_); (case side1 => exact cb_ HR0_2.out HB.out); (case side3 => exact cb_ HR1_0.out HB.out); (case side5 => exact cb_ HR1_1.out HB.out); rintro e w28 ⟨rfl, hb⟩; refine ⟨_, rfl, ?_⟩; replace BK278 := kb_ BK278 hb; replace BK279 := kb_ BK279 hb; replace HB := hs_ HB hb; (try clear hb)) | ((with_reducible refine gate_dst (N := 9) rfl ?_); refine Kd.R_lit k98 _ 98 ?hg (N := 9) ?hd (xs := ([] : List (S98))) (inner := []) (ok := fun _ => True) (okp := fun _ => True) ?hr ?hp (fun _ hk => hk) trivial (Below.refl _ _) (Nat.le_refl _) (by simp) ?_; (case hd => rfl); (case hg => rfl); (case hr => first | (go_simp; done) | (go_simp; rfl)); (case hp => exact (Reps.none _ _)); intro v282 w29 ho30 hb hg_ hnew_; clear hg_ hnew_; (first | rw [← Ny281.out] at ho30 | (simp only [Int.reduceToNat] at ho30; rw [← Ny281.out] at ho30)); have HO283 := Aside0.mk (Kd.R_lower ho30 (bz_ HB.out)); replace BK278 := kb_ BK278 hb; replace BK279 := kb_ BK279 hb; replace HB := hs_ HB hb; clear hb ho30))
  go_ret
  exact ⟨_, fin_, ra_ HO283.out, bb_ HB.out⟩

/-! ### spec_l09Free: function 61 -/
def spec_l09Free.l0 : Nat → List (S98) → List Int → Int → Int → Option (Bool)
 | 0, _, _, _, _ => none
 | k + 1, x0, x1, x2, x7 => if x7 < (x0.length : Int) then (if 0 ≤ x7 then (if ((rd_T98 x0 x7).f1) = x2 then (if 0 ≤ ((rd_T98 x0 x7).f0) then (if ((rd_T98 x0 x7).f0) < (x1.length : Int) then (if (rd x1 ((rd_T98 x0 x7).f0)) < 0 then (some false) else (spec_l09Free.l0 k x0 x1 x2 (wrap64 (x7 + 1)))) else (none)) else (none)) else (spec_l09Free.l0 k x0 x1 x2 (wrap64 (x7 + 1)))) else (none)) else (some true)
def spec_l09Free.f (k : Nat) (l0 : List (S98)) (l1 : List Int) (a2 : Int) : Option (Bool) := spec_l09Free.l0 k l0 l1 a2 0
theorem spec_l09Free.mono_l : ∀ k, (∀ y0 y1 y2 y3, LeO (spec_l09Free.l0 k y0 y1 y2 y3) (spec_l09Free.l0 (k + 1) y0 y1 y2 y3))
 | 0 => fun _ _ _ _ r h => by simp [spec_l09Free.l0] at h
 | k + 1 => by
  have ih0 := spec_l09Free.mono_l k
  ·intro y0 y1 y2 y3
   unfold spec_l09Free.l0
   repeat' (with_reducible first | exact ih0 .. | exact LeO.refl .. | exact LeO.none .. | refine LeO.ite ?_ ?_ | refine LeO.bind ?_ (fun _ => ?_))
theorem spec_l09Free.mono : ∀ a0 a1 a2 k, LeO (spec_l09Free.f k a0 a1 a2) (spec_l09Free.f (k + 1) a0 a1 a2) := by
 intro a0 a1 a2 k
 have ih0 := spec_l09Free.mono_l k
 unfold spec_l09Free.f
 repeat' (with_reducible first | exact ih0 .. | exact LeO.refl .. | exact LeO.none .. | refine LeO.ite ?_ ?_ | refine LeO.bind ?_ (fun _ => ?_))
theorem spec_l09Free.e0 {P : Prop} (h : P := by
 go_wp2
 go_roundg k1
 case measure => have := HK1.out; omega
 case rel => exact ⟨(wrap64 (x7_1 + 1)), ef_, H', ⟨by have := HK1.out; omega⟩, by repeat (first | exact Drawn0.refl _ | apply Drawn0.step)⟩) : P := h
theorem spec_l09Free.calls (k : Nat) (A0 : Option Addr) (c0 : Nat) (l0 : List (S98)) (A1 : Option Addr) (c1 : Nat) (l1 : List Int) (a2 : Int) (r : Bool) (w : World) (hr0 : Kd.C k98 w A0 l0.length l0) (hc0 : l0.length ≤ c0) (hr1 : Kd.C (Kd.int .i64) w A1 l1.length l1) (hc1 : l1.length ≤ c1) (h : spec_l09Free.f k l0 l1 a2 = some r) :
  Calls Tryz.prog 61 #[.slice A0 l0.length c0, .slice A1 l1.length c1, .int .i64 a2] w fun e w' => e = .returned (.bool r) ∧ Drawn0 w w' := by
 have HR0 := Aside0.mk hr0
 have HC0 := Aside0.mk hc0
 clear hr0 hc0
 have HR1 := Aside0.mk hr1
 have HC1 := Aside0.mk hc1
 clear hr1 hc1
 have H : (spec_l09Free.l0 k l0 l1 a2 0) = some r := h
 clear h
 have H' := Aside0.mk H
 clear H
 go_enter Tryz.func61, Tryz.ntmps61
 go_wp2
 go_loopg [7] k (fun kq v7 w' => ∃ (x7_1 : Int), v7 = .int .i64 x7_1 ∧ Aside0 (spec_l09Free.l0 kq l0 l1 a2 x7_1 = some r) ∧ Aside0 (kq ≤ k) ∧ Drawn0 w w')
 case atStart => exact ⟨(0), ef_, H', ⟨Nat.le_refl _⟩, by repeat (first | exact Drawn0.refl _ | apply Drawn0.step)⟩
 clear H'
 obtain ⟨x7_1, rfl, HA, HK1, ⟨m1, rfl⟩⟩ := hrel
 obtain _ | k1 := gk
 ·exact absurd HA.out (by simp [spec_l09Free.l0])
 have H := HA.out
 clear HA
 simp only [spec_l09Free.l0] at H
 by_cases c4 : x7_1 < (l0.length : Int)
 rotate_left
 ·rw [if_neg c4] at H
  have c4b0 : decide (x7_1 < (l0.length : Int)) = false := decide_eq_false c4
  clear c4
  obtain rfl := Option.some.inj H
  go_wp2
  go_ret
  exact ⟨by first | rfl | (simp; done) | (simp [*]; done), by repeat (first | exact Drawn0.refl _ | apply Drawn0.step)⟩
 rw [if_pos c4] at H
 have c4b0 : decide (x7_1 < (l0.length : Int)) = true := decide_eq_true c4
 clear c4
 by_cases c5 : 0 ≤ x7_1
 rotate_left
 ·rw [if_neg c5] at H
  exact absurd H (by simp)
 rw [if_pos c5] at H
 have c5b0 : decide (0 ≤ x7_1) = true := decide_eq_true c5
 clear c5
 by_cases c6 : ((rd_T98 l0 x7_1).f1) = a2
 rotate_left
 ·rw [if_neg c6] at H
  have c6b0 : (((rd_T98 l0 x7_1).f1) == a2) = false := beq_eq_false_iff_ne.mpr c6
  have c6b1 : (((rd_T98 l0 x7_1).f1) != a2) = true := bne_iff_ne.mpr c6
  have H' := Aside0.mk H
  clear H
  have p296 : 0 ≤ (x7_1 : Int) := of_decide_eq_true dg_
  have q296 : x7_1 < (l0.length : Int) := of_decide_eq_true dg_
  obtain ⟨ad296, e296, hx296_0, hx296_1⟩ := at_T98 HR0.out x7_1 p296 q296
  cases e296
  replace p296 := eq_true p296
  replace q296 := eq_true q296
  exact spec_l09Free.e0
 rw [if_pos c6] at H
 have c6b0 : (((rd_T98 l0 x7_1).f1) == a2) = true := beq_iff_eq.mpr c6
 have c6b1 : (((rd_T98 l0 x7_1).f1) != a2) = false := bne_eq_false_iff_eq.mpr c6
 clear c6
 by_cases c7 : 0 ≤ ((rd_T98 l0 x7_1).f0)
 rotate_left
 ·rw [if_neg c7] at H
  exact absurd H (by simp)
 rw [if_pos c7] at H
 have c7b0 : decide (0 ≤ ((rd_T98 l0 x7_1).f0)) = true := decide_eq_true c7
 clear c7
 by_cases c8 : ((rd_T98 l0 x7_1).f0) < (l1.length : Int)
 rotate_left
 ·rw [if_neg c8] at H
  exact absurd H (by simp)
 rw [if_pos c8] at H
 have c8b0 : decide (((rd_T98 l0 x7_1).f0) < (l1.length : Int)) = true := decide_eq_true c8
 clear c8
 by_cases c9 : (rd l1 ((rd_T98 l0 x7_1).f0)) < 0
 rotate_left
 ·rw [if_neg c9] at H
  have c9b0 : decide ((rd l1 ((rd_T98 l0 x7_1).f0)) < 0) = false := decide_eq_false c9
  clear c9
  have H' := Aside0.mk H
  clear H
  have p296 : 0 ≤ (x7_1 : Int) := of_decide_eq_true dg_
  have q296 : x7_1 < (l0.length : Int) := of_decide_eq_true dg_
  obtain ⟨ad296, e296, hx296_0, hx296_1⟩ := at_T98 HR0.out x7_1 p296 q296
  cases e296
  replace p296 := eq_true p296
  replace q296 := eq_true q296
  have p297 : 0 ≤ (x7_1 : Int) := of_decide_eq_true dg_
  have q297 : x7_1 < (l0.length : Int) := of_decide_eq_true dg_
  obtain ⟨ad297, e297, hx297_0, hx297_1⟩ := at_T98 HR0.out x7_1 p297 q297
  obtain rfl : ad296 = ad297 := (by injection e297)
  replace p297 := eq_true p297
  replace q297 := eq_true q297
  have p298 : 0 ≤ (((rd_T98 l0 x7_1).f0) : Int) := of_decide_eq_true dg_
  have q298 : ((rd_T98 l0 x7_1).f0) < (l1.length : Int) := of_decide_eq_true dg_
  obtain ⟨ad298, e298, hx298_0⟩ := Kd.at_int HR1.out ((rd_T98 l0 x7_1).f0) p298 q298
  cases e298
  replace p298 := eq_true p298
  replace q298 := eq_true q298
  exact spec_l09Free.e0
 rw [if_pos c9] at H
 have c9b0 : decide ((rd l1 ((rd_T98 l0 x7_1).f0)) < 0) = true := decide_eq_true c9
 clear c9
 obtain rfl := Option.some.inj H
 have p296 : 0 ≤ (x7_1 : Int) := of_decide_eq_true dg_
 have q296 : x7_1 < (l0.length : Int) := of_decide_eq_true dg_
 obtain ⟨ad296, e296, hx296_0, hx296_1⟩ := at_T98 HR0.out x7_1 p296 q296
 cases e296
 replace p296 := eq_true p296
 replace q296 := eq_true q296
 have p297 : 0 ≤ (x7_1 : Int) := of_decide_eq_true dg_
 have q297 : x7_1 < (l0.length : Int) := of_decide_eq_true dg_
 obtain ⟨ad297, e297, hx297_0, hx297_1⟩ := at_T98 HR0.out x7_1 p297 q297
 obtain rfl : ad296 = ad297 := (by injection e297)
 replace p297 := eq_true p297
 replace q297 := eq_true q297
 have p298 : 0 ≤ (((rd_T98 l0 x7_1).f0) : Int) := of_decide_eq_true dg_
 have q298 : ((rd_T98 l0 x7_1).f0) < (l1.length : Int) := of_decide_eq_true dg_
 obtain ⟨ad298, e298, hx298_0⟩ := Kd.at_int HR1.out ((rd_T98 l0 x7_1).f0) p298 q298
 cases e298
 replace p298 := eq_true p298
 replace q298 := eq_true q298
 go_wp2
 go_ret
 exact ⟨by first | rfl | (simp; done) | (simp [*]; done), by repeat (first | exact Drawn0.refl _ | apply Drawn0.step)⟩

end Go.Proofs.YtimdefbpoddoaaaGreat.PFnExactCheckClasses
-- thin
