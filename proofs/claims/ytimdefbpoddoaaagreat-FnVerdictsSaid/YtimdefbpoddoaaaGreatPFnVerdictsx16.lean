/- The law's functions as plain functions, and their calls. No condition. -/
import Derived.Test.YtimdefbpoddoaaaGreatPFnVerdictsx0
import Derived.Test.YtimdefbpoddoaaaGreatPFnVerdictsx8
import Derived.Test.YtimdefbpoddoaaaGreatPFnVerdictsx14
import Derived.Test.YtimdefbpoddoaaaGreatPFnVerdictsx15
import Derived.Test.YtimdefbpoddoaaaGreatPFnVerdictsx3
namespace Go.Proofs.YtimdefbpoddoaaaGreat.PFnVerdicts
open Go.RowKit Go.Proofs.YtimdefbpoddoaaaGreatW.PrintWords Go.Proofs.YtimdefbpoddoaaaGreatW.PrintLast Go.Proofs.YtimdefbpoddoaaaGreatW.PrintMore
attribute [local go_sem] max2_int min2_int max_two min_two max_three min_three max_four min_four
set_option linter.unusedVariables false
set_option maxHeartbeats 8000000
set_option maxRecDepth 100000
set_option linter.unusedSimpArgs false

/-! ### impl_ProvesVerdict: function 21 -/
def impl_ProvesVerdict.f (k : Nat) (a0_0 : Int) (a0_1 : Int) (l0_2 : List Int) (l1_0 : List Int) (a2_0 : Int) (l2_1 : List Int) (l2_2 : List Int) : Option (Bool) := (impl_TableOk.f k a0_0 a0_1 l0_2 l1_0).bind fun t466 => (if a2_0 = 1 then (if t466 = true then ((impl_DependsOf.f k a0_0 a0_1 l0_2 l1_0).bind fun t467 => ((impl_IsOrder.f k t467 l2_1).bind fun t470 => (if t470 = true then (some ((l2_2.length : Int) == 0)) else (some false)))) else (some false)) else (if a2_0 = 2 then (if t466 = true then ((impl_DependsOf.f k a0_0 a0_1 l0_2 l1_0).bind fun t471 => ((impl_IsCycle.f k t471 l2_2).bind fun t474 => (if t474 = true then (some ((l2_1.length : Int) == 0)) else (some false)))) else (some false)) else (if a2_0 = 0 then (if t466 = true then (some false) else (if (l2_1.length : Int) = 0 then (some ((l2_2.length : Int) == 0)) else (some false))) else (some false))))
theorem impl_ProvesVerdict.mono : ∀ a0 a1 a2 a3 a4 a5 a6 k, LeO (impl_ProvesVerdict.f k a0 a1 a2 a3 a4 a5 a6) (impl_ProvesVerdict.f (k + 1) a0 a1 a2 a3 a4 a5 a6) := by
 intro a0 a1 a2 a3 a4 a5 a6 k
 unfold impl_ProvesVerdict.f
 repeat' (with_reducible first | exact impl_DependsOf.mono .. | exact impl_IsCycle.mono .. | exact impl_IsOrder.mono .. | exact impl_TableOk.mono .. | exact LeO.refl .. | exact LeO.none .. | refine LeO.ite ?_ ?_ | refine LeO.bind ?_ (fun _ => ?_))
def impl_ProvesVerdict.T4 : Bool × List (List Nat × List Nat) := (true, [([], []), ([0], [0]), ([1], [1]), ([1], [1]), ([2, 3, 1, 1], [1, 2, 3]), ([1], [1]), ([5, 1], [1, 5]), ([4, 6, 4, 1], [1, 4, 6]), ([1, 7], [1, 7]), ([8, 7], [8]), ([9], [9]), ([10, 9], [9, 10]), ([11, 9], [9, 11]), ([12, 9], [9, 12]), ([9, 13], [9, 13]), ([14, 9, 0, 1, 2, 3, 4, 5, 6, 7, 8, 9, 10, 11, 12, 13, 14], [14])])
def impl_ProvesVerdict.B4 : List Nat := [0, 1, 3, 3, 15, 3, 35, 127, 255, 511, 1023, 2047, 4095, 8191, 16383, 32767]
theorem impl_ProvesVerdict.tab4 : rtab .any (opsOf Tryz.f21 4) = impl_ProvesVerdict.T4 := by kernel_rfl
theorem impl_ProvesVerdict.bits4 : waitsOk impl_ProvesVerdict.T4.2 impl_ProvesVerdict.B4 = true := by kernel_rfl
def impl_ProvesVerdict.T6 : Bool × List (List Nat × List Nat) := (true, [([], []), ([0], [0]), ([1], [1]), ([1], [1]), ([2, 3, 1, 1], [1, 2, 3]), ([1], [1]), ([5, 1], [1, 5]), ([4, 6, 4, 1], [1, 4, 6]), ([1, 7], [1, 7]), ([8, 7], [8]), ([9], [9]), ([10, 9], [9, 10]), ([11, 9], [9, 11]), ([12, 9], [9, 12]), ([9, 13], [9, 13]), ([14, 9, 0, 1, 2, 3, 4, 5, 6, 7, 8, 9, 10, 11, 12, 13, 14], [14])])
def impl_ProvesVerdict.B6 : List Nat := [0, 1, 3, 3, 15, 3, 35, 127, 255, 511, 1023, 2047, 4095, 8191, 16383, 32767]
theorem impl_ProvesVerdict.tab6 : rtab .any (opsOf Tryz.f21 6) = impl_ProvesVerdict.T6 := by kernel_rfl
theorem impl_ProvesVerdict.bits6 : waitsOk impl_ProvesVerdict.T6.2 impl_ProvesVerdict.B6 = true := by kernel_rfl
theorem impl_ProvesVerdict.e0 {P : Prop} (h : P := by
 go_enter Tryz.func21, Tryz.ntmps21
 go_wp2_with (first | ((with_reducible refine gate_dst (N := 3) rfl ?_); (try (refine gate_guard (by rfl) ?_; dsimp only)); refine box_event ?hg (N := 3) ?hd (cs := #[.int .i64 a0_0, .int .i64 a0_1, .slice A0_2 l0_2.length c0_2]) (t := 38) ?hr ?_; (case hd => rfl); (case hg => rfl); (case hr => first | (go_simp; done) | (go_simp; rfl)); intro gb463 hg w_0 hbox hb; have BK463 := Aside0.mk (hbox); have GW463 := gw_ hg HB; have GE463 := gw_ hg HB; replace HB := hs_ HB hb; clear hb hbox hg) | ((with_reducible refine gate_dst (N := 4) rfl ?_); (try (refine gate_guard (by rfl) ?_; dsimp only)); refine box_event ?hg (N := 4) ?hd (cs := #[.slice A1_0 l1_0.length c1_0]) (t := 40) ?hr ?_; (case hd => rfl); (case hg => rfl); (case hr => first | (go_simp; done) | (go_simp; rfl)); intro gb464 hg w_0 hbox hb; have BK464 := Aside0.mk (hbox); have GW464 := gw_ hg HB; have GE464 := gw_ hg HB; replace HB := hs_ HB hb; have NB463_464 := nl_ hg BK463; have NB464_463 := ng_ hg BK463; replace BK463 := kb_ BK463 hb; clear hb hbox hg) | ((with_reducible refine gate_dst (N := 5) rfl ?_); (try (refine gate_guard (by rfl) ?_; dsimp only)); refine box_event ?hg (N := 5) ?hd (cs := #[.int .i64 a2_0, .slice A2_1 l2_1.length c2_1, .slice A2_2 l2_2.length c2_2]) (t := 34) ?hr ?_; (case hd => rfl); (case hg => rfl); (case hr => first | (go_simp; done) | (go_simp; rfl)); intro gb465 hg w_0 hbox hb; have BK465 := Aside0.mk (hbox); have GW465 := gw_ hg HB; have GE465 := gw_ hg HB; replace HB := hs_ HB hb; have NB463_465 := nl_ hg BK463; have NB465_463 := ng_ hg BK463; replace BK463 := kb_ BK463 hb; have NB464_465 := nl_ hg BK464; have NB465_464 := ng_ hg BK464; replace BK464 := kb_ BK464 hb; clear hb hbox hg; have hnb_ := NB463_464.out; have hnc_ := NB464_463.out; have hnb_ := NB463_465.out; have hnc_ := NB465_463.out; obtain ⟨hcz_0, hcz_1, hcz_2, hfz_0, hfz_1, hfz_2⟩ := cz3_ BK463.out; have hnb_ := NB464_465.out; have hnc_ := NB465_464.out; obtain ⟨hcz__0, hfz__0⟩ := cz1_ BK464.out) | ((with_reducible refine gate_callee (f := 24) rfl ?_); refine gm_ (some 10) Tryz.func24 #[.agg #[.int .i64 a0_0, .int .i64 a0_1, .slice A0_2 l0_2.length c0_2], .agg #[.slice A1_0 l1_0.length c1_0]] rfl ?_; (with_reducible refine (impl_TableOk.calls k a0_0 a0_1 _ _ l0_2 _ _ l1_0 _ _ ?side1 HC0_2.out ?side3 HC1_0.out A4.out).mono ?_); (case side1 => exact cb_ HR0_2.out HB.out); (case side3 => exact cb_ HR1_0.out HB.out); rintro e w_0 ⟨rfl, hb⟩; refine ⟨_, rfl, ?_⟩; replace BK463 := kb_ BK463 hb; replace BK464 := kb_ BK464 hb; replace BK465 := kb_ BK465 hb; replace HB := hs_ HB hb; (try clear hb); obtain ⟨hcz_0, hcz_1, hcz_2, hfz_0, hfz_1, hfz_2⟩ := cz3_ BK465.out) | ((with_reducible refine gate_callee (f := 24) rfl ?_); refine gm_ (some 10) Tryz.func24 #[.agg #[.int .i64 a0_0, .int .i64 a0_1, .slice A0_2 l0_2.length c0_2], .agg #[.slice A1_0 l1_0.length c1_0]] rfl ?_; (with_reducible refine (impl_TableOk.calls k a0_0 a0_1 _ _ l0_2 _ _ l1_0 t466 _ ?side1 HC0_2.out ?side3 HC1_0.out A4.out).mono ?_); (case side1 => exact cb_ HR0_2.out HB.out); (case side3 => exact cb_ HR1_0.out HB.out); rintro e w_0 ⟨rfl, hb⟩; refine ⟨_, rfl, ?_⟩; replace BK463 := kb_ BK463 hb; replace BK464 := kb_ BK464 hb; replace BK465 := kb_ BK465 hb; replace HB := hs_ HB hb; (try clear hb); obtain ⟨hcz_0, hcz_1, hcz_2, hfz_0, hfz_1, hfz_2⟩ := cz3_ BK465.out))
 go_ret
 exact ⟨fin_, bb_ HB.out⟩) : P := h
theorem impl_ProvesVerdict.calls (k : Nat) (a0_0 : Int) (a0_1 : Int) (A0_2 : Option Addr) (c0_2 : Nat) (l0_2 : List Int) (A1_0 : Option Addr) (c1_0 : Nat) (l1_0 : List Int) (a2_0 : Int) (A2_1 : Option Addr) (c2_1 : Nat) (l2_1 : List Int) (A2_2 : Option Addr) (c2_2 : Nat) (l2_2 : List Int) (r : Bool) (w : World) (hr0_2 : Kd.C (Kd.int .i64) w A0_2 l0_2.length l0_2) (hc0_2 : l0_2.length ≤ c0_2) (hr1_0 : Kd.C (Kd.int .i64) w A1_0 l1_0.length l1_0) (hc1_0 : l1_0.length ≤ c1_0) (hr2_1 : Kd.C (Kd.int .i64) w A2_1 l2_1.length l2_1) (hc2_1 : l2_1.length ≤ c2_1) (hr2_2 : Kd.C (Kd.int .i64) w A2_2 l2_2.length l2_2) (hc2_2 : l2_2.length ≤ c2_2) (h : impl_ProvesVerdict.f k a0_0 a0_1 l0_2 l1_0 a2_0 l2_1 l2_2 = some r) :
  Calls Tryz.prog 21 #[.agg #[.int .i64 a0_0, .int .i64 a0_1, .slice A0_2 l0_2.length c0_2], .agg #[.slice A1_0 l1_0.length c1_0], .agg #[.int .i64 a2_0, .slice A2_1 l2_1.length c2_1, .slice A2_2 l2_2.length c2_2]] w fun e w' => e = .returned (.bool r) ∧ Below w.heap.size w w' := by
 have HR0_2 := Aside0.mk hr0_2; have HC0_2 := Aside0.mk hc0_2
 have HR1_0 := Aside0.mk hr1_0; have HC1_0 := Aside0.mk hc1_0
 have HR2_1 := Aside0.mk hr2_1; have HC2_1 := Aside0.mk hc2_1
 have HR2_2 := Aside0.mk hr2_2; have HC2_2 := Aside0.mk hc2_2
 have HB := Aside0.mk (Below.refl w.heap.size w)
 have hu38 := Tryz.underlying38
 have hu40 := Tryz.underlying40
 have hu34 := Tryz.underlying34
 unfold impl_ProvesVerdict.f at h
 obtain ⟨tk, e1, h1⟩ := Option.bind_eq_some_iff.1 h
 have E1 := Aside0.mk e1; have H' := Aside0.mk h1; clear h h1 e1 hr0_2 hc0_2 hr1_0 hc1_0 hr2_1 hc2_1 hr2_2 hc2_2
 go_enter Tryz.func21, Tryz.ntmps21
 go_upto_if 13 with (first | ((with_reducible refine gate_dst (N := 3) rfl ?_); refine box_event ?hg (N := 3) ?hd (cs := #[.int .i64 a0_0, .int .i64 a0_1, .slice A0_2 l0_2.length c0_2]) (t := 38) ?hr ?_; (case hd => rfl); (case hg => rfl); (case hr => first | (go_simp; done) | (go_simp; rfl)); intro g3 hg w1 hbox hb; have B3 := Aside0.mk hbox; replace HB := Aside0.mk (bs_ HB.out hb); clear hb hbox hg) | ((with_reducible refine gate_dst (N := 4) rfl ?_); refine box_event ?hg (N := 4) ?hd (cs := #[.slice A1_0 l1_0.length c1_0]) (t := 40) ?hr ?_; (case hd => rfl); (case hg => rfl); (case hr => first | (go_simp; done) | (go_simp; rfl)); intro g4 hg w1 hbox hb; have B4 := Aside0.mk hbox; replace B3 := Aside0.mk (bk_ B3.out hb); replace HB := Aside0.mk (bs_ HB.out hb); clear hb hbox hg) | ((with_reducible refine gate_dst (N := 5) rfl ?_); refine box_event ?hg (N := 5) ?hd (cs := #[.int .i64 a2_0, .slice A2_1 l2_1.length c2_1, .slice A2_2 l2_2.length c2_2]) (t := 34) ?hr ?_; (case hd => rfl); (case hg => rfl); (case hr => first | (go_simp; done) | (go_simp; rfl)); intro g5 hg w1 hbox hb; have B5 := Aside0.mk hbox; replace B3 := Aside0.mk (bk_ B3.out hb); replace B4 := Aside0.mk (bk_ B4.out hb); replace HB := Aside0.mk (bs_ HB.out hb); clear hb hbox hg; obtain ⟨y0, y1, y2, -⟩ := cz3_ B3.out; obtain ⟨x0, -⟩ := cz1_ B4.out; obtain ⟨v0, v1, v2, -⟩ := cz3_ B5.out) | (go_at_call 24; (with_reducible refine (impl_TableOk.calls k a0_0 a0_1 _ _ l0_2 _ _ l1_0 tk _ ?s1 HC0_2.out ?s3 HC1_0.out E1.out).mono ?_); (case s1 => exact cb_ HR0_2.out HB.out); (case s3 => exact cb_ HR1_0.out HB.out); rintro e wa ⟨rfl, hb⟩; replace B3 := Aside0.mk (bk_ B3.out hb); replace B4 := Aside0.mk (bk_ B4.out hb); replace B5 := Aside0.mk (bk_ B5.out hb); replace HB := Aside0.mk (bs_ HB.out hb); clear hb; clear y0 y1 y2 x0 v0 v1 v2; obtain ⟨y0, y1, y2, -⟩ := cz3_ B3.out; obtain ⟨x0, -⟩ := cz1_ B4.out; obtain ⟨v0, v1, v2, -⟩ := cz3_ B5.out))
 by_cases c1 : a2_0 = 1
 · have H := H'.out; rw [if_pos c1] at H; have c1b : (a2_0 == 1) = true := beq_iff_eq.mpr c1; clear H' c1
   cases tk
   · rw [if_neg (by decide)] at H; obtain rfl := Option.some.inj H
     go_upto_region 4 with fail
     refine start_ (n := 16) (S := fun _ => True) (ds := []) #[false, false, false, false, false, false, false, false, false, false, false, false, false, false, false, false] (by kernel_rfl) rfl rfl trivial (fun _ => ?_); refine with_tabW impl_ProvesVerdict.tab4 impl_ProvesVerdict.bits4 (fun HT_ HW_ => ?_)
     replace HB := Aside0.mk (below_drew1 HB.out)
     refine pu_ 0 15 (bt_ 16 1) HT_ ?_
     refine pu_ 1 16 (bt_ 16 3) HT_ ?_
     refine un_ 2 17 (bt_ 16 7) HT_ ?_
     refine un_ 3 18 (bt_ 16 15) HT_ ?_
     refine un_ 4 19 (bt_ 16 31) HT_ ?_
     refine un_ 5 20 (bt_ 16 63) HT_ ?_
     refine un_ 6 21 (bt_ 16 127) HT_ ?_
     refine un_ 7 22 (bt_ 16 255) HT_ ?_
     refine pu_ 8 23 (bt_ 16 511) HT_ ?_
     refine pu_ 9 24 (bt_ 16 1023) HT_ ?_
     refine un_ 10 25 (bt_ 16 2047) HT_ ?_
     refine un_ 11 26 (bt_ 16 4095) HT_ ?_
     refine un_ 12 27 (bt_ 16 8191) HT_ ?_
     refine un_ 13 28 (bt_ 16 16383) HT_ ?_
     refine pu_ 14 29 (bt_ 16 32767) HT_ ?_
     refine pu_ 15 6 (bt_ 16 65535) HT_ ?_
     refine done_ (done_of HT_.out (by kernel_rfl)) ?_
     try go_wp2
     go_ret
     exact ⟨rfl, bb_ HB.out⟩
   · rw [if_pos rfl] at H; obtain ⟨l, e2, h2⟩ := Option.bind_eq_some_iff.1 H; obtain ⟨o, e3, h3⟩ := Option.bind_eq_some_iff.1 h2; have E2 := Aside0.mk e2; have E3 := Aside0.mk e3; clear e2 e3 h2 H
     cases o
     · rw [if_neg (by decide)] at h3; obtain rfl := Option.some.inj h3
       go_upto_region 4 with fail
       refine start_ (n := 16) (S := fun w' => w'.cell? ⟨g3, 0, none⟩ = some (.int .i64 a0_0) ∧ w'.cell? ⟨g3, 1, none⟩ = some (.int .i64 a0_1) ∧ w'.cell? ⟨g3, 2, none⟩ = some (.slice A0_2 l0_2.length c0_2) ∧ w'.cell? ⟨g4, 0, none⟩ = some (.slice A1_0 l1_0.length c1_0) ∧ w'.cell? ⟨g5, 0, none⟩ = some (.int .i64 a2_0) ∧ w'.cell? ⟨g5, 1, none⟩ = some (.slice A2_1 l2_1.length c2_1) ∧ w'.cell? ⟨g5, 2, none⟩ = some (.slice A2_2 l2_2.length c2_2)) (ds := []) #[false, false, false, false, false, false, false, false, false, false, false, false, false, false, false, false] (by kernel_rfl) rfl rfl ⟨y0, y1, y2, x0, v0, v1, v2⟩ (fun hHeld => ?_); refine with_tabW impl_ProvesVerdict.tab4 impl_ProvesVerdict.bits4 (fun HT_ HW_ => ?_)
       clear y0 y1 y2 x0 v0 v1 v2
       replace B3 := Aside0.mk (blk_drew B3.out)
       replace B4 := Aside0.mk (blk_drew B4.out)
       replace B5 := Aside0.mk (blk_drew B5.out)
       replace HB := Aside0.mk (below_drew1 HB.out)
       generalize wa.drew = wc at *
       refine pu_ 0 15 (bt_ 16 1) HT_ ?_
       refine pu_ 1 16 (bt_ 16 3) HT_ ?_
       refine pu_ 5 20 (bt_ 16 35) HT_ ?_
       refine tk_ (v := .agg #[.int .i64 a0_0, .int .i64 a0_1, .slice A0_2 l0_2.length c0_2]) 2 17 (bt_ 16 39) hHeld ?_ (hy := by rintro w' ⟨s0, s1, s2, s3, s4, s5, s6⟩; go_simp)
       refine tk_ (v := .agg #[.slice A1_0 l1_0.length c1_0]) 3 18 (bt_ 16 47) hHeld ?_ (hy := by rintro w' ⟨s0, s1, s2, s3, s4, s5, s6⟩; go_simp)
       refine tk_ (v := .slice A2_1 l2_1.length c2_1) 6 21 (bt_ 16 111) hHeld ?_ (hy := by rintro w' ⟨s0, s1, s2, s3, s4, s5, s6⟩; go_simp)
       refine one_ (i := 4) (N := some 19) (bt_ 16 127) rfl rfl (by kernel_rfl) (by decide) (fun K hK => ?_)
       refine goes_ Tryz.func45 (by kernel_rfl) rfl #[.agg #[.int .i64 a0_0, .int .i64 a0_1, .slice A0_2 l0_2.length c0_2], .agg #[.slice A1_0 l1_0.length c1_0]] (by rfl) rfl rfl (by (try simp only [List.map_toArray, List.map_cons, List.map_nil]); first | done | rfl) ?_
       (with_reducible refine (impl_DependsOf.calls k a0_0 a0_1 _ _ l0_2 _ _ l1_0 l _ ?s1 HC0_2.out ?s3 HC1_0.out E2.out).mono ?_); (case s1 => exact cb_ HR0_2.out HB.out); (case s3 => exact cb_ HR1_0.out HB.out); rintro e wd ⟨u_, rfl, ho, hb⟩; refine ⟨_, rfl, ?_⟩; have HL := Aside0.mk ho; obtain ⟨Al, cl, e_⟩ := Kd.R_slice ho; subst e_; replace B3 := Aside0.mk (bk_ B3.out hb); replace B4 := Aside0.mk (bk_ B4.out hb); replace B5 := Aside0.mk (bk_ B5.out hb); replace HB := Aside0.mk (bs_ HB.out hb); clear ho hb
       refine hK.out _ _ ⟨(blk_cell B3.out 0).trans rfl, (blk_cell B3.out 1).trans rfl, (blk_cell B3.out 2).trans rfl, (blk_cell B4.out 0).trans rfl, (blk_cell B5.out 0).trans rfl, (blk_cell B5.out 1).trans rfl, (blk_cell B5.out 2).trans rfl⟩ (fun hHeld => ?_)
       clear hK K
       refine norm_ (a' := ?_) ?_ ?_
       rotate_left
       · show Act.put _ (some 19) _ = _
         simp only [Act.put, List.setIfInBounds_toArray, List.set_cons_zero, List.set_cons_succ, i64_w, i32_w]
         rfl
       refine one_ (i := 7) (N := some 22) (bt_ 16 255) rfl rfl (by kernel_rfl) (by decide) (fun K hK => ?_)
       refine goes_ Tryz.func46 (by kernel_rfl) rfl #[.slice Al l.length cl, .slice A2_1 l2_1.length c2_1] (by rfl) rfl rfl (by (try simp only [List.map_toArray, List.map_cons, List.map_nil]); first | done | rfl) ?_
       (with_reducible refine (impl_IsOrder.calls k _ _ l _ _ l2_1 _ _ ?s1 (Kd.R_reads' HL.out).2.1 ?s3 HC2_1.out E3.out).mono ?_); (case s1 => exact (Kd.R_reads' (ra_ HL.out)).2.2); (case s3 => exact cb_ HR2_1.out HB.out); rintro e we ⟨rfl, hb⟩; refine ⟨_, rfl, ?_⟩; replace B3 := Aside0.mk (bk_ B3.out hb); replace B4 := Aside0.mk (bk_ B4.out hb); replace B5 := Aside0.mk (bk_ B5.out hb); replace HB := Aside0.mk (bs_ HB.out hb); clear hb
       refine hK.out _ _ ⟨(blk_cell B3.out 0).trans rfl, (blk_cell B3.out 1).trans rfl, (blk_cell B3.out 2).trans rfl, (blk_cell B4.out 0).trans rfl, (blk_cell B5.out 0).trans rfl, (blk_cell B5.out 1).trans rfl, (blk_cell B5.out 2).trans rfl⟩ (fun hHeld => ?_)
       clear hK K
       refine norm_ (a' := ?_) ?_ ?_
       rotate_left
       · show Act.put _ (some 22) _ = _
         simp only [Act.put, List.setIfInBounds_toArray, List.set_cons_zero, List.set_cons_succ, i64_w, i32_w]
         rfl
       refine pu_ 8 23 (bt_ 16 511) HT_ ?_
       refine pu_ 9 24 (bt_ 16 1023) HT_ ?_
       refine un_ 10 25 (bt_ 16 2047) HT_ ?_
       refine un_ 11 26 (bt_ 16 4095) HT_ ?_
       refine un_ 12 27 (bt_ 16 8191) HT_ ?_
       refine un_ 13 28 (bt_ 16 16383) HT_ ?_
       refine pu_ 14 29 (bt_ 16 32767) HT_ ?_
       refine pu_ 15 6 (bt_ 16 65535) HT_ ?_
       refine done_ (done_of HT_.out (by kernel_rfl)) ?_
       try go_wp2
       go_ret
       exact ⟨rfl, bb_ HB.out⟩
     · rw [if_pos rfl] at h3; obtain rfl := Option.some.inj h3
       go_upto_region 4 with fail
       go_region_held3 (fun w' => w'.cell? ⟨g3, 0, none⟩ = some (.int .i64 a0_0) ∧ w'.cell? ⟨g3, 1, none⟩ = some (.int .i64 a0_1) ∧ w'.cell? ⟨g3, 2, none⟩ = some (.slice A0_2 l0_2.length c0_2) ∧ w'.cell? ⟨g4, 0, none⟩ = some (.slice A1_0 l1_0.length c1_0) ∧ w'.cell? ⟨g5, 0, none⟩ = some (.int .i64 a2_0) ∧ w'.cell? ⟨g5, 1, none⟩ = some (.slice A2_1 l2_1.length c2_1) ∧ w'.cell? ⟨g5, 2, none⟩ = some (.slice A2_2 l2_2.length c2_2)) (exact ⟨y0, y1, y2, x0, v0, v1, v2⟩) (first | (go_at_call 45; (with_reducible refine (impl_DependsOf.calls k a0_0 a0_1 _ _ l0_2 _ _ l1_0 l _ ?s1 HC0_2.out ?s3 HC1_0.out E2.out).mono ?_); (case s1 => exact cb_ HR0_2.out HB.out); (case s3 => exact cb_ HR1_0.out HB.out); rintro e wd ⟨u_, rfl, ho, hb⟩; have HL := Aside0.mk ho; obtain ⟨Al, cl, e_⟩ := Kd.R_slice ho; subst e_; replace B3 := Aside0.mk (bk_ B3.out hb); replace B4 := Aside0.mk (bk_ B4.out hb); replace B5 := Aside0.mk (bk_ B5.out hb); replace HB := Aside0.mk (bs_ HB.out hb); clear ho hb; clear y0 y1 y2 x0 v0 v1 v2; obtain ⟨y0, y1, y2, -⟩ := cz3_ B3.out; obtain ⟨x0, -⟩ := cz1_ B4.out; obtain ⟨v0, v1, v2, -⟩ := cz3_ B5.out) | (go_at_call 46; (with_reducible refine (impl_IsOrder.calls k _ _ l _ _ l2_1 _ _ ?s1 (Kd.R_reads' HL.out).2.1 ?s3 HC2_1.out E3.out).mono ?_); (case s1 => exact (Kd.R_reads' (ra_ HL.out)).2.2); (case s3 => exact cb_ HR2_1.out HB.out); rintro e we ⟨rfl, hb⟩; replace B3 := Aside0.mk (bk_ B3.out hb); replace B4 := Aside0.mk (bk_ B4.out hb); replace B5 := Aside0.mk (bk_ B5.out hb); replace HB := Aside0.mk (bs_ HB.out hb); clear hb; clear y0 y1 y2 x0 v0 v1 v2; obtain ⟨y0, y1, y2, -⟩ := cz3_ B3.out; obtain ⟨x0, -⟩ := cz1_ B4.out; obtain ⟨v0, v1, v2, -⟩ := cz3_ B5.out))
       try go_wp2
       go_ret
       exact ⟨rfl, bb_ HB.out⟩
 · have c1b : (a2_0 == 1) = false := beq_eq_false_iff_ne.mpr c1
   by_cases c2 : a2_0 = 2
   · have H := H'.out; rw [if_neg c1, if_pos c2] at H; have c2b : (a2_0 == 2) = true := beq_iff_eq.mpr c2; clear H' c1 c2
     cases tk
     · rw [if_neg (by decide)] at H; obtain rfl := Option.some.inj H
       go_upto_region 6 with fail
       refine start_ (n := 16) (S := fun _ => True) (ds := []) #[false, false, false, false, false, false, false, false, false, false, false, false, false, false, false, false] (by kernel_rfl) rfl rfl trivial (fun _ => ?_); refine with_tabW impl_ProvesVerdict.tab6 impl_ProvesVerdict.bits6 (fun HT_ HW_ => ?_)
       replace HB := Aside0.mk (below_drew1 HB.out)
       refine pu_ 0 32 (bt_ 16 1) HT_ ?_
       refine pu_ 1 33 (bt_ 16 3) HT_ ?_
       refine un_ 2 34 (bt_ 16 7) HT_ ?_
       refine un_ 3 35 (bt_ 16 15) HT_ ?_
       refine un_ 4 36 (bt_ 16 31) HT_ ?_
       refine un_ 5 37 (bt_ 16 63) HT_ ?_
       refine un_ 6 38 (bt_ 16 127) HT_ ?_
       refine un_ 7 39 (bt_ 16 255) HT_ ?_
       refine pu_ 8 40 (bt_ 16 511) HT_ ?_
       refine pu_ 9 41 (bt_ 16 1023) HT_ ?_
       refine un_ 10 42 (bt_ 16 2047) HT_ ?_
       refine un_ 11 43 (bt_ 16 4095) HT_ ?_
       refine un_ 12 44 (bt_ 16 8191) HT_ ?_
       refine un_ 13 45 (bt_ 16 16383) HT_ ?_
       refine pu_ 14 46 (bt_ 16 32767) HT_ ?_
       refine pu_ 15 6 (bt_ 16 65535) HT_ ?_
       refine done_ (done_of HT_.out (by kernel_rfl)) ?_
       try go_wp2
       go_ret
       exact ⟨rfl, bb_ HB.out⟩
     · rw [if_pos rfl] at H; obtain ⟨l, e2, h2⟩ := Option.bind_eq_some_iff.1 H; obtain ⟨o, e3, h3⟩ := Option.bind_eq_some_iff.1 h2; have E2 := Aside0.mk e2; have E3 := Aside0.mk e3; clear e2 e3 h2 H
       cases o
       · rw [if_neg (by decide)] at h3; obtain rfl := Option.some.inj h3
         go_upto_region 6 with fail
         refine start_ (n := 16) (S := fun w' => w'.cell? ⟨g3, 0, none⟩ = some (.int .i64 a0_0) ∧ w'.cell? ⟨g3, 1, none⟩ = some (.int .i64 a0_1) ∧ w'.cell? ⟨g3, 2, none⟩ = some (.slice A0_2 l0_2.length c0_2) ∧ w'.cell? ⟨g4, 0, none⟩ = some (.slice A1_0 l1_0.length c1_0) ∧ w'.cell? ⟨g5, 0, none⟩ = some (.int .i64 a2_0) ∧ w'.cell? ⟨g5, 1, none⟩ = some (.slice A2_1 l2_1.length c2_1) ∧ w'.cell? ⟨g5, 2, none⟩ = some (.slice A2_2 l2_2.length c2_2)) (ds := []) #[false, false, false, false, false, false, false, false, false, false, false, false, false, false, false, false] (by kernel_rfl) rfl rfl ⟨y0, y1, y2, x0, v0, v1, v2⟩ (fun hHeld => ?_); refine with_tabW impl_ProvesVerdict.tab6 impl_ProvesVerdict.bits6 (fun HT_ HW_ => ?_)
         clear y0 y1 y2 x0 v0 v1 v2
         replace B3 := Aside0.mk (blk_drew B3.out)
         replace B4 := Aside0.mk (blk_drew B4.out)
         replace B5 := Aside0.mk (blk_drew B5.out)
         replace HB := Aside0.mk (below_drew1 HB.out)
         generalize wa.drew = wc at *
         refine pu_ 0 32 (bt_ 16 1) HT_ ?_
         refine pu_ 1 33 (bt_ 16 3) HT_ ?_
         refine pu_ 5 37 (bt_ 16 35) HT_ ?_
         refine tk_ (v := .agg #[.int .i64 a0_0, .int .i64 a0_1, .slice A0_2 l0_2.length c0_2]) 2 34 (bt_ 16 39) hHeld ?_ (hy := by rintro w' ⟨s0, s1, s2, s3, s4, s5, s6⟩; go_simp)
         refine tk_ (v := .agg #[.slice A1_0 l1_0.length c1_0]) 3 35 (bt_ 16 47) hHeld ?_ (hy := by rintro w' ⟨s0, s1, s2, s3, s4, s5, s6⟩; go_simp)
         refine tk_ (v := .slice A2_2 l2_2.length c2_2) 6 38 (bt_ 16 111) hHeld ?_ (hy := by rintro w' ⟨s0, s1, s2, s3, s4, s5, s6⟩; go_simp)
         refine one_ (i := 4) (N := some 36) (bt_ 16 127) rfl rfl (by kernel_rfl) (by decide) (fun K hK => ?_)
         refine goes_ Tryz.func45 (by kernel_rfl) rfl #[.agg #[.int .i64 a0_0, .int .i64 a0_1, .slice A0_2 l0_2.length c0_2], .agg #[.slice A1_0 l1_0.length c1_0]] (by rfl) rfl rfl (by (try simp only [List.map_toArray, List.map_cons, List.map_nil]); first | done | rfl) ?_
         (with_reducible refine (impl_DependsOf.calls k a0_0 a0_1 _ _ l0_2 _ _ l1_0 l _ ?s1 HC0_2.out ?s3 HC1_0.out E2.out).mono ?_); (case s1 => exact cb_ HR0_2.out HB.out); (case s3 => exact cb_ HR1_0.out HB.out); rintro e wd ⟨u_, rfl, ho, hb⟩; refine ⟨_, rfl, ?_⟩; have HL := Aside0.mk ho; obtain ⟨Al, cl, e_⟩ := Kd.R_slice ho; subst e_; replace B3 := Aside0.mk (bk_ B3.out hb); replace B4 := Aside0.mk (bk_ B4.out hb); replace B5 := Aside0.mk (bk_ B5.out hb); replace HB := Aside0.mk (bs_ HB.out hb); clear ho hb
         refine hK.out _ _ ⟨(blk_cell B3.out 0).trans rfl, (blk_cell B3.out 1).trans rfl, (blk_cell B3.out 2).trans rfl, (blk_cell B4.out 0).trans rfl, (blk_cell B5.out 0).trans rfl, (blk_cell B5.out 1).trans rfl, (blk_cell B5.out 2).trans rfl⟩ (fun hHeld => ?_)
         clear hK K
         refine norm_ (a' := ?_) ?_ ?_
         rotate_left
         · show Act.put _ (some 36) _ = _
           simp only [Act.put, List.setIfInBounds_toArray, List.set_cons_zero, List.set_cons_succ, i64_w, i32_w]
           rfl
         refine one_ (i := 7) (N := some 39) (bt_ 16 255) rfl rfl (by kernel_rfl) (by decide) (fun K hK => ?_)
         refine goes_ Tryz.func47 (by kernel_rfl) rfl #[.slice Al l.length cl, .slice A2_2 l2_2.length c2_2] (by rfl) rfl rfl (by (try simp only [List.map_toArray, List.map_cons, List.map_nil]); first | done | rfl) ?_
         (with_reducible refine (impl_IsCycle.calls k _ _ l _ _ l2_2 _ _ ?s1 (Kd.R_reads' HL.out).2.1 ?s3 HC2_2.out E3.out).mono ?_); (case s1 => exact (Kd.R_reads' (ra_ HL.out)).2.2); (case s3 => exact cb_ HR2_2.out HB.out); rintro e we ⟨rfl, hb⟩; refine ⟨_, rfl, ?_⟩; replace B3 := Aside0.mk (bk_ B3.out hb); replace B4 := Aside0.mk (bk_ B4.out hb); replace B5 := Aside0.mk (bk_ B5.out hb); replace HB := Aside0.mk (bs_ HB.out hb); clear hb
         refine hK.out _ _ ⟨(blk_cell B3.out 0).trans rfl, (blk_cell B3.out 1).trans rfl, (blk_cell B3.out 2).trans rfl, (blk_cell B4.out 0).trans rfl, (blk_cell B5.out 0).trans rfl, (blk_cell B5.out 1).trans rfl, (blk_cell B5.out 2).trans rfl⟩ (fun hHeld => ?_)
         clear hK K
         refine norm_ (a' := ?_) ?_ ?_
         rotate_left
         · show Act.put _ (some 39) _ = _
           simp only [Act.put, List.setIfInBounds_toArray, List.set_cons_zero, List.set_cons_succ, i64_w, i32_w]
           rfl
         refine pu_ 8 40 (bt_ 16 511) HT_ ?_
         refine pu_ 9 41 (bt_ 16 1023) HT_ ?_
         refine un_ 10 42 (bt_ 16 2047) HT_ ?_
         refine un_ 11 43 (bt_ 16 4095) HT_ ?_
         refine un_ 12 44 (bt_ 16 8191) HT_ ?_
         refine un_ 13 45 (bt_ 16 16383) HT_ ?_
         refine pu_ 14 46 (bt_ 16 32767) HT_ ?_
         refine pu_ 15 6 (bt_ 16 65535) HT_ ?_
         refine done_ (done_of HT_.out (by kernel_rfl)) ?_
         try go_wp2
         go_ret
         exact ⟨rfl, bb_ HB.out⟩
       · rw [if_pos rfl] at h3; obtain rfl := Option.some.inj h3
         go_upto_region 6 with fail
         go_region_held3 (fun w' => w'.cell? ⟨g3, 0, none⟩ = some (.int .i64 a0_0) ∧ w'.cell? ⟨g3, 1, none⟩ = some (.int .i64 a0_1) ∧ w'.cell? ⟨g3, 2, none⟩ = some (.slice A0_2 l0_2.length c0_2) ∧ w'.cell? ⟨g4, 0, none⟩ = some (.slice A1_0 l1_0.length c1_0) ∧ w'.cell? ⟨g5, 0, none⟩ = some (.int .i64 a2_0) ∧ w'.cell? ⟨g5, 1, none⟩ = some (.slice A2_1 l2_1.length c2_1) ∧ w'.cell? ⟨g5, 2, none⟩ = some (.slice A2_2 l2_2.length c2_2)) (exact ⟨y0, y1, y2, x0, v0, v1, v2⟩) (first | (go_at_call 45; (with_reducible refine (impl_DependsOf.calls k a0_0 a0_1 _ _ l0_2 _ _ l1_0 l _ ?s1 HC0_2.out ?s3 HC1_0.out E2.out).mono ?_); (case s1 => exact cb_ HR0_2.out HB.out); (case s3 => exact cb_ HR1_0.out HB.out); rintro e wd ⟨u_, rfl, ho, hb⟩; have HL := Aside0.mk ho; obtain ⟨Al, cl, e_⟩ := Kd.R_slice ho; subst e_; replace B3 := Aside0.mk (bk_ B3.out hb); replace B4 := Aside0.mk (bk_ B4.out hb); replace B5 := Aside0.mk (bk_ B5.out hb); replace HB := Aside0.mk (bs_ HB.out hb); clear ho hb; clear y0 y1 y2 x0 v0 v1 v2; obtain ⟨y0, y1, y2, -⟩ := cz3_ B3.out; obtain ⟨x0, -⟩ := cz1_ B4.out; obtain ⟨v0, v1, v2, -⟩ := cz3_ B5.out) | (go_at_call 47; (with_reducible refine (impl_IsCycle.calls k _ _ l _ _ l2_2 _ _ ?s1 (Kd.R_reads' HL.out).2.1 ?s3 HC2_2.out E3.out).mono ?_); (case s1 => exact (Kd.R_reads' (ra_ HL.out)).2.2); (case s3 => exact cb_ HR2_2.out HB.out); rintro e we ⟨rfl, hb⟩; replace B3 := Aside0.mk (bk_ B3.out hb); replace B4 := Aside0.mk (bk_ B4.out hb); replace B5 := Aside0.mk (bk_ B5.out hb); replace HB := Aside0.mk (bs_ HB.out hb); clear hb; clear y0 y1 y2 x0 v0 v1 v2; obtain ⟨y0, y1, y2, -⟩ := cz3_ B3.out; obtain ⟨x0, -⟩ := cz1_ B4.out; obtain ⟨v0, v1, v2, -⟩ := cz3_ B5.out))
         try go_wp2
         go_ret
         exact ⟨rfl, bb_ HB.out⟩
   · have c2b : (a2_0 == 2) = false := beq_eq_false_iff_ne.mpr c2
     by_cases c0 : a2_0 = 0
     · have H := H'.out; rw [if_neg c1, if_neg c2, if_pos c0] at H; have c0b : (a2_0 == 0) = true := beq_iff_eq.mpr c0; clear H' c0 c1 c2
       cases tk
       · rw [if_neg (by decide)] at H; by_cases d : (l2_1.length : Int) = 0
         · rw [if_pos d] at H; obtain rfl := Option.some.inj H; have db : ((l2_1.length : Int) == 0) = true := beq_iff_eq.mpr d; clear d
           try go_wp2
           go_ret
           exact ⟨rfl, bb_ HB.out⟩
         · rw [if_neg d] at H; obtain rfl := Option.some.inj H; have db : ((l2_1.length : Int) == 0) = false := beq_eq_false_iff_ne.mpr d; clear d
           try go_wp2
           go_ret
           exact ⟨rfl, bb_ HB.out⟩
       · rw [if_pos rfl] at H; obtain rfl := Option.some.inj H
         try go_wp2
         go_ret
         exact ⟨rfl, bb_ HB.out⟩
     · have H := H'.out; rw [if_neg c1, if_neg c2, if_neg c0] at H; have c0b : (a2_0 == 0) = false := beq_eq_false_iff_ne.mpr c0; obtain rfl := Option.some.inj H; clear H' c0 c1 c2
       try go_wp2
       go_ret
       exact ⟨rfl, bb_ HB.out⟩

end Go.Proofs.YtimdefbpoddoaaaGreat.PFnVerdicts
-- thin
