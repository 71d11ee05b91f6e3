/- The law's functions as plain functions, and their calls. No condition. -/
import Derived.Test.YtimdefbpoddoaaaGreatPFnVerdictsx0
import Derived.Test.YtimdefbpoddoaaaGreatPFnVerdictsx2
import Derived.Test.YtimdefbpoddoaaaGreatPFnVerdictsx6
import Derived.Test.YtimdefbpoddoaaaGreatPFnVerdictsx8
import Derived.Test.YtimdefbpoddoaaaGreatPFnVerdictsx14
import Derived.Test.YtimdefbpoddoaaaGreatPFnVerdictsx16
import Derived.Test.YtimdefbpoddoaaaGreatPFnVerdictsx18
import Derived.Test.YtimdefbpoddoaaaGreatPFnVerdictsx20
import Derived.Test.YtimdefbpoddoaaaGreatPFnVerdictsx22
namespace Go.Proofs.YtimdefbpoddoaaaGreat.PFnVerdicts
open Go.RowKit Go.Proofs.YtimdefbpoddoaaaGreatW.PrintWords Go.Proofs.YtimdefbpoddoaaaGreatW.PrintLast Go.Proofs.YtimdefbpoddoaaaGreatW.PrintMore
attribute [local go_sem] max2_int min2_int max_two min_two max_three min_three max_four min_four
set_option linter.unusedVariables false
set_option maxHeartbeats 8000000
set_option maxRecDepth 100000
set_option linter.unusedSimpArgs false

/-! ### spec_ProvesVerdict: function 22 -/
def spec_ProvesVerdict.f (k : Nat) (a0_0 : Int) (a0_1 : Int) (l0_2 : List Int) (l1_0 : List Int) (a2_0 : Int) (l2_1 : List Int) (l2_2 : List Int) : Option (Bool) := (spec_TableOk.f k a0_0 a0_1 l0_2 l1_0).bind fun t608 => ((spec_DependsOf.f k a0_0 a0_1 l0_2 l1_0).bind fun t609 => (if a2_0 = 0 then (if t608 = true then (some false) else (if (l2_1.length : Int) = 0 then (some ((l2_2.length : Int) == 0)) else (some false))) else (if a2_0 = 1 then (if t608 = true then ((spec_IsOrder.f k t609 l2_1).bind fun t612 => (if t612 = true then (some ((l2_2.length : Int) == 0)) else (some false))) else (some false)) else (if a2_0 = 2 then (if t608 = true then ((spec_IsCycle.f k t609 l2_2).bind fun t613 => (if t613 = true then (some ((l2_1.length : Int) == 0)) else (some false))) else (some false)) else (some false)))))
theorem spec_ProvesVerdict.mono : ∀ a0 a1 a2 a3 a4 a5 a6 k, LeO (spec_ProvesVerdict.f k a0 a1 a2 a3 a4 a5 a6) (spec_ProvesVerdict.f (k + 1) a0 a1 a2 a3 a4 a5 a6) := by
 intro a0 a1 a2 a3 a4 a5 a6 k
 unfold spec_ProvesVerdict.f
 repeat' (with_reducible first | exact spec_DependsOf.mono .. | exact spec_IsCycle.mono .. | exact spec_IsOrder.mono .. | exact spec_TableOk.mono .. | exact LeO.refl .. | exact LeO.none .. | refine LeO.ite ?_ ?_ | refine LeO.bind ?_ (fun _ => ?_))
theorem spec_ProvesVerdict.e0 {P : Prop} (h : P := by
 go_enter Tryz.func22, Tryz.ntmps22
 go_wp2_with (first | ((with_reducible refine gate_dst (N := 3) rfl ?_); (try (refine gate_guard (by rfl) ?_; dsimp only)); refine box_event ?hg (N := 3) ?hd (cs := #[.int .i64 a0_0, .int .i64 a0_1, .slice A0_2 l0_2.length c0_2]) (t := 38) ?hr ?_; (case hd => rfl); (case hg => rfl); (case hr => first | (go_simp; done) | (go_simp; rfl)); intro gb605 hg w_0 hbox hb; have BK605 := Aside0.mk (hbox); have GW605 := gw_ hg HB; have GE605 := gw_ hg HB; replace HB := hs_ HB hb; clear hb hbox hg) | ((with_reducible refine gate_dst (N := 4) rfl ?_); (try (refine gate_guard (by rfl) ?_; dsimp only)); refine box_event ?hg (N := 4) ?hd (cs := #[.slice A1_0 l1_0.length c1_0]) (t := 40) ?hr ?_; (case hd => rfl); (case hg => rfl); (case hr => first | (go_simp; done) | (go_simp; rfl)); intro gb606 hg w_0 hbox hb; have BK606 := Aside0.mk (hbox); have GW606 := gw_ hg HB; have GE606 := gw_ hg HB; replace HB := hs_ HB hb; have NB605_606 := nl_ hg BK605; have NB606_605 := ng_ hg BK605; replace BK605 := kb_ BK605 hb; clear hb hbox hg) | ((with_reducible refine gate_dst (N := 5) rfl ?_); (try (refine gate_guard (by rfl) ?_; dsimp only)); refine box_event ?hg (N := 5) ?hd (cs := #[.int .i64 a2_0, .slice A2_1 l2_1.length c2_1, .slice A2_2 l2_2.length c2_2]) (t := 34) ?hr ?_; (case hd => rfl); (case hg => rfl); (case hr => first | (go_simp; done) | (go_simp; rfl)); intro gb607 hg w_0 hbox hb; have BK607 := Aside0.mk (hbox); have GW607 := gw_ hg HB; have GE607 := gw_ hg HB; replace HB := hs_ HB hb; have NB605_607 := nl_ hg BK605; have NB607_605 := ng_ hg BK605; replace BK605 := kb_ BK605 hb; have NB606_607 := nl_ hg BK606; have NB607_606 := ng_ hg BK606; replace BK606 := kb_ BK606 hb; clear hb hbox hg; have hnb_ := NB605_606.out; have hnc_ := NB606_605.out; have hnb_ := NB605_607.out; have hnc_ := NB607_605.out; obtain ⟨hcz_0, hcz_1, hcz_2, hfz_0, hfz_1, hfz_2⟩ := cz3_ BK605.out; have hnb_ := NB606_607.out; have hnc_ := NB607_606.out; obtain ⟨hcz__0, hfz__0⟩ := cz1_ BK606.out) | ((with_reducible refine gate_callee (f := 48) rfl ?_); refine gm_ (some 11) Tryz.func48 #[.agg #[.int .i64 a0_0, .int .i64 a0_1, .slice A0_2 l0_2.length c0_2], .agg #[.slice A1_0 l1_0.length c1_0]] rfl ?_; (with_reducible refine (spec_TableOk.calls k a0_0 a0_1 _ _ l0_2 _ _ l1_0 _ _ ?side1 HC0_2.out ?side3 HC1_0.out A4.out).mono ?_); (case side1 => exact cb_ HR0_2.out HB.out); (case side3 => exact cb_ HR1_0.out HB.out); rintro e w_0 ⟨rfl, hb⟩; refine ⟨_, rfl, ?_⟩; replace BK605 := kb_ BK605 hb; replace BK606 := kb_ BK606 hb; replace BK607 := kb_ BK607 hb; replace HB := hs_ HB hb; (try clear hb); obtain ⟨hcz_0, hcz_1, hcz_2, hfz_0, hfz_1, hfz_2⟩ := cz3_ BK605.out; obtain ⟨hcz__0, hfz__0⟩ := cz1_ BK606.out) | ((with_reducible refine gate_callee (f := 49) rfl ?_); refine gm_ (some 14) Tryz.func49 #[.agg #[.int .i64 a0_0, .int .i64 a0_1, .slice A0_2 l0_2.length c0_2], .agg #[.slice A1_0 l1_0.length c1_0]] rfl ?_; (with_reducible refine (spec_DependsOf.calls k a0_0 a0_1 _ _ l0_2 _ _ l1_0 t609 _ ?side1 HC0_2.out ?side3 HC1_0.out A5.out).mono ?_); (case side1 => exact cb_ HR0_2.out HB.out); (case side3 => exact cb_ HR1_0.out HB.out); rintro e w_0 ⟨v610, rfl, ho0, hb⟩; refine ⟨_, rfl, ?_⟩; have HO611 := Aside0.mk (Kd.R_lower ho0 (bz_ HB.out)); replace BK605 := kb_ BK605 hb; replace BK606 := kb_ BK606 hb; replace BK607 := kb_ BK607 hb; replace HB := hs_ HB hb; (try clear hb); (try clear ho0); obtain ⟨hcz_0, hcz_1, hcz_2, hfz_0, hfz_1, hfz_2⟩ := cz3_ BK607.out; obtain ⟨Ao65, co65, eo65⟩ := Kd.R_slice HO611.out; subst eo65) | ((with_reducible refine gate_callee (f := 49) rfl ?_); refine gm_ (some 14) Tryz.func49 #[.agg #[.int .i64 a0_0, .int .i64 a0_1, .slice A0_2 l0_2.length c0_2], .agg #[.slice A1_0 l1_0.length c1_0]] rfl ?_; (with_reducible refine (spec_DependsOf.calls k a0_0 a0_1 _ _ l0_2 _ _ l1_0 t609 _ ?side1 HC0_2.out ?side3 HC1_0.out A5.out).mono ?_); (case side1 => exact cb_ HR0_2.out HB.out); (case side3 => exact cb_ HR1_0.out HB.out); rintro e w_0 ⟨v610, rfl, ho0, hb⟩; refine ⟨_, rfl, ?_⟩; have HO611 := Aside0.mk (Kd.R_lower ho0 (bz_ HB.out)); replace BK605 := kb_ BK605 hb; replace BK606 := kb_ BK606 hb; replace BK607 := kb_ BK607 hb; replace HB := hs_ HB hb; (try clear hb); (try clear ho0); obtain ⟨hcz_0, hcz_1, hcz_2, hfz_0, hfz_1, hfz_2⟩ := cz3_ BK607.out; obtain ⟨Ao81, co81, eo81⟩ := Kd.R_slice HO611.out; subst eo81) | ((with_reducible refine gate_callee (f := 49) rfl ?_); refine gm_ (some 14) Tryz.func49 #[.agg #[.int .i64 a0_0, .int .i64 a0_1, .slice A0_2 l0_2.length c0_2], .agg #[.slice A1_0 l1_0.length c1_0]] rfl ?_; (with_reducible refine (spec_DependsOf.calls k a0_0 a0_1 _ _ l0_2 _ _ l1_0 t609 _ ?side1 HC0_2.out ?side3 HC1_0.out A5.out).mono ?_); (case side1 => exact cb_ HR0_2.out HB.out); (case side3 => exact cb_ HR1_0.out HB.out); rintro e w_0 ⟨v610, rfl, ho0, hb⟩; refine ⟨_, rfl, ?_⟩; have HO611 := Aside0.mk (Kd.R_lower ho0 (bz_ HB.out)); replace BK605 := kb_ BK605 hb; replace BK606 := kb_ BK606 hb; replace BK607 := kb_ BK607 hb; replace HB := hs_ HB hb; (try clear hb); (try clear ho0); obtain ⟨hcz_0, hcz_1, hcz_2, hfz_0, hfz_1, hfz_2⟩ := cz3_ BK607.out; obtain ⟨Ao113, co113, eo113⟩ := Kd.R_slice HO611.out; subst eo113) | ((with_reducible refine gate_callee (f := 49) rfl ?_); refine gm_ (some 14) Tryz.func49 #[.agg #[.int .i64 a0_0, .int .i64 a0_1, .slice A0_2 l0_2.length c0_2], .agg #[.slice A1_0 l1_0.length c1_0]] rfl ?_; (with_reducible refine (spec_DependsOf.calls k a0_0 a0_1 _ _ l0_2 _ _ l1_0 t609 _ ?side1 HC0_2.out ?side3 HC1_0.out A5.out).mono ?_); (case side1 => exact cb_ HR0_2.out HB.out); (case side3 => exact cb_ HR1_0.out HB.out); rintro e w_0 ⟨v610, rfl, ho0, hb⟩; refine ⟨_, rfl, ?_⟩; have HO611 := Aside0.mk (Kd.R_lower ho0 (bz_ HB.out)); replace BK605 := kb_ BK605 hb; replace BK606 := kb_ BK606 hb; replace BK607 := kb_ BK607 hb; replace HB := hs_ HB hb; (try clear hb); (try clear ho0); obtain ⟨hcz_0, hcz_1, hcz_2, hfz_0, hfz_1, hfz_2⟩ := cz3_ BK607.out; obtain ⟨Ao129, co129, eo129⟩ := Kd.R_slice HO611.out; subst eo129) | ((with_reducible refine gate_callee (f := 49) rfl ?_); refine gm_ (some 14) Tryz.func49 #[.agg #[.int .i64 a0_0, .int .i64 a0_1, .slice A0_2 l0_2.length c0_2], .agg #[.slice A1_0 l1_0.length c1_0]] rfl ?_; (with_reducible refine (spec_DependsOf.calls k a0_0 a0_1 _ _ l0_2 _ _ l1_0 t609 _ ?side1 HC0_2.out ?side3 HC1_0.out A5.out).mono ?_); (case side1 => exact cb_ HR0_2.out HB.out); (case side3 => exact cb_ HR1_0.out HB.out); rintro e w_0 ⟨v610, rfl, ho0, hb⟩; refine ⟨_, rfl, ?_⟩; have HO611 := Aside0.mk (Kd.R_lower ho0 (bz_ HB.out)); replace BK605 := kb_ BK605 hb; replace BK606 := kb_ BK606 hb; replace BK607 := kb_ BK607 hb; replace HB := hs_ HB hb; (try clear hb); (try clear ho0); obtain ⟨hcz_0, hcz_1, hcz_2, hfz_0, hfz_1, hfz_2⟩ := cz3_ BK607.out) | (go_at_call 50; (with_reducible refine (spec_IsOrder.calls k _ _ t609 _ _ l2_1 _ _ ?side1 ?side2 ?side3 HC2_1.out A50.out).mono ?_); (case side1 => exact rr_ HO611); (case side2 => exact (Kd.R_reads' HO611.out).2.1); (case side3 => exact cb_ HR2_1.out HB.out); rintro e w_0 ⟨rfl, hb⟩; replace HO611 := rb_ HO611 hb; replace BK605 := kb_ BK605 hb; replace BK606 := kb_ BK606 hb; replace BK607 := kb_ BK607 hb; replace HB := hs_ HB hb; (try clear hb); obtain ⟨hcz_0, hcz_1, hcz_2, hfz_0, hfz_1, hfz_2⟩ := cz3_ BK607.out) | (go_at_call 51; (with_reducible refine (spec_IsCycle.calls k _ _ t609 _ _ l2_2 _ _ ?side1 ?side2 ?side3 HC2_2.out A98.out).mono ?_); (case side1 => exact rr_ HO611); (case side2 => exact (Kd.R_reads' HO611.out).2.1); (case side3 => exact cb_ HR2_2.out HB.out); rintro e w_0 ⟨rfl, hb⟩; replace HO611 := rb_ HO611 hb; replace BK605 := kb_ BK605 hb; replace BK606 := kb_ BK606 hb; replace BK607 := kb_ BK607 hb; replace HB := hs_ HB hb; (try clear hb); obtain ⟨hcz_0, hcz_1, hcz_2, hfz_0, hfz_1, hfz_2⟩ := cz3_ BK607.out) | ((with_reducible refine gate_callee (f := 48) rfl ?_); refine gm_ (some 11) Tryz.func48 #[.agg #[.int .i64 a0_0, .int .i64 a0_1, .slice A0_2 l0_2.length c0_2], .agg #[.slice A1_0 l1_0.length c1_0]] rfl ?_; (with_reducible refine (spec_TableOk.calls k a0_0 a0_1 _ _ l0_2 _ _ l1_0 t608 _ ?side1 HC0_2.out ?side3 HC1_0.out A4.out).mono ?_); (case side1 => exact cb_ HR0_2.out HB.out); (case side3 => exact cb_ HR1_0.out HB.out); rintro e w_0 ⟨rfl, hb⟩; refine ⟨_, rfl, ?_⟩; replace BK605 := kb_ BK605 hb; replace BK606 := kb_ BK606 hb; replace BK607 := kb_ BK607 hb; replace HB := hs_ HB hb; (try clear hb); obtain ⟨hcz_0, hcz_1, hcz_2, hfz_0, hfz_1, hfz_2⟩ := cz3_ BK605.out; obtain ⟨hcz__0, hfz__0⟩ := cz1_ BK606.out))
 go_ret
 exact ⟨fin_, bb_ HB.out⟩) : P := h
theorem spec_ProvesVerdict.calls (k : Nat) (a0_0 : Int) (a0_1 : Int) (A0_2 : Option Addr) (c0_2 : Nat) (l0_2 : List Int) (A1_0 : Option Addr) (c1_0 : Nat) (l1_0 : List Int) (a2_0 : Int) (A2_1 : Option Addr) (c2_1 : Nat) (l2_1 : List Int) (A2_2 : Option Addr) (c2_2 : Nat) (l2_2 : List Int) (r : Bool) (w : World) (hr0_2 : Kd.C (Kd.int .i64) w A0_2 l0_2.length l0_2) (hc0_2 : l0_2.length ≤ c0_2) (hr1_0 : Kd.C (Kd.int .i64) w A1_0 l1_0.length l1_0) (hc1_0 : l1_0.length ≤ c1_0) (hr2_1 : Kd.C (Kd.int .i64) w A2_1 l2_1.length l2_1) (hc2_1 : l2_1.length ≤ c2_1) (hr2_2 : Kd.C (Kd.int .i64) w A2_2 l2_2.length l2_2) (hc2_2 : l2_2.length ≤ c2_2) (h : spec_ProvesVerdict.f k a0_0 a0_1 l0_2 l1_0 a2_0 l2_1 l2_2 = some r) :
  Calls Tryz.prog 22 #[.agg #[.int .i64 a0_0, .int .i64 a0_1, .slice A0_2 l0_2.length c0_2], .agg #[.slice A1_0 l1_0.length c1_0], .agg #[.int .i64 a2_0, .slice A2_1 l2_1.length c2_1, .slice A2_2 l2_2.length c2_2]] w fun e w' => e = .returned (.bool r) ∧ Below w.heap.size w w' := by
 have hu38 := Tryz.underlying38
 have hu40 := Tryz.underlying40
 have hu34 := Tryz.underlying34
 have HR0_2 := Aside0.mk hr0_2
 have HC0_2 := Aside0.mk hc0_2
 clear hr0_2 hc0_2
 have HR1_0 := Aside0.mk hr1_0
 have HC1_0 := Aside0.mk hc1_0
 clear hr1_0 hc1_0
 have HR2_1 := Aside0.mk hr2_1
 have HC2_1 := Aside0.mk hc2_1
 clear hr2_1 hc2_1
 have HR2_2 := Aside0.mk hr2_2
 have HC2_2 := Aside0.mk hc2_2
 clear hr2_2 hc2_2
 have HB := Aside0.mk (Below.refl w.heap.size w)
 have H : ((spec_TableOk.f k a0_0 a0_1 l0_2 l1_0).bind fun t608 => ((spec_DependsOf.f k a0_0 a0_1 l0_2 l1_0).bind fun t609 => (if a2_0 = 0 then (if t608 = true then (some false) else (if (l2_1.length : Int) = 0 then (some ((l2_2.length : Int) == 0)) else (some false))) else (if a2_0 = 1 then (if t608 = true then ((spec_IsOrder.f k t609 l2_1).bind fun t612 => (if t612 = true then (some ((l2_2.length : Int) == 0)) else (some false))) else (some false)) else (if a2_0 = 2 then (if t608 = true then ((spec_IsCycle.f k t609 l2_2).bind fun t613 => (if t613 = true then (some ((l2_1.length : Int) == 0)) else (some false))) else (some false)) else (some false)))))) = some r := h
 clear h
 obtain ⟨t608, A4, H⟩ := bi_ H
 obtain ⟨t609, A5, H⟩ := bi_ H
 by_cases c6 : a2_0 = 0
 ·rw [if_pos c6] at H
  have c6b0 : (a2_0 == 0) = true := beq_iff_eq.mpr c6
  have c6b1 : (a2_0 != 0) = false := bne_eq_false_iff_eq.mpr c6
  clear c6
  by_cases c7 : t608 = true
  ·subst c7
   rw [if_pos rfl] at H
   obtain rfl := Option.some.inj H
   exact spec_ProvesVerdict.e0
  replace c7 := Bool.eq_false_iff.mpr c7
  subst c7
  rw [if_neg (show ¬ (false = true) by decide)] at H
  by_cases c21 : (l2_1.length : Int) = 0
  ·rw [if_pos c21] at H
   have c21b0 : ((l2_1.length : Int) == 0) = true := beq_iff_eq.mpr c21
   have c21b1 : ((l2_1.length : Int) != 0) = false := bne_eq_false_iff_eq.mpr c21
   clear c21
   obtain rfl := Option.some.inj H
   exact spec_ProvesVerdict.e0
  rw [if_neg c21] at H
  have c21b0 : ((l2_1.length : Int) == 0) = false := beq_eq_false_iff_ne.mpr c21
  have c21b1 : ((l2_1.length : Int) != 0) = true := bne_iff_ne.mpr c21
  have c21b2 : ¬ (l2_1 = []) := fun h_ => c21 (by rw [h_]; rfl)
  obtain rfl := Option.some.inj H
  exact spec_ProvesVerdict.e0
 ·rw [if_neg c6] at H
  have c6b0 : (a2_0 == 0) = false := beq_eq_false_iff_ne.mpr c6
  have c6b1 : (a2_0 != 0) = true := bne_iff_ne.mpr c6
  by_cases c48 : a2_0 = 1
  ·rw [if_pos c48] at H
   have c48b0 : (a2_0 == 1) = true := beq_iff_eq.mpr c48
   have c48b1 : (a2_0 != 1) = false := bne_eq_false_iff_eq.mpr c48
   clear c48
   by_cases c49 : t608 = true
   rotate_left
   ·replace c49 := Bool.eq_false_iff.mpr c49
    subst c49
    rw [if_neg (show ¬ (false = true) by decide)] at H
    obtain rfl := Option.some.inj H
    exact spec_ProvesVerdict.e0
   subst c49
   rw [if_pos rfl] at H
   obtain ⟨t612, A50, H⟩ := bi_ H
   by_cases c51 : t612 = true
   ·subst c51
    rw [if_pos rfl] at H
    obtain rfl := Option.some.inj H
    exact spec_ProvesVerdict.e0
   replace c51 := Bool.eq_false_iff.mpr c51
   subst c51
   rw [if_neg (show ¬ (false = true) by decide)] at H
   obtain rfl := Option.some.inj H
   exact spec_ProvesVerdict.e0
  ·rw [if_neg c48] at H
   have c48b0 : (a2_0 == 1) = false := beq_eq_false_iff_ne.mpr c48
   have c48b1 : (a2_0 != 1) = true := bne_iff_ne.mpr c48
   by_cases c96 : a2_0 = 2
   ·rw [if_pos c96] at H
    have c96b0 : (a2_0 == 2) = true := beq_iff_eq.mpr c96
    have c96b1 : (a2_0 != 2) = false := bne_eq_false_iff_eq.mpr c96
    clear c96
    by_cases c97 : t608 = true
    rotate_left
    ·replace c97 := Bool.eq_false_iff.mpr c97
     subst c97
     rw [if_neg (show ¬ (false = true) by decide)] at H
     obtain rfl := Option.some.inj H
     exact spec_ProvesVerdict.e0
    subst c97
    rw [if_pos rfl] at H
    obtain ⟨t613, A98, H⟩ := bi_ H
    by_cases c99 : t613 = true
    ·subst c99
     rw [if_pos rfl] at H
     obtain rfl := Option.some.inj H
     exact spec_ProvesVerdict.e0
    replace c99 := Bool.eq_false_iff.mpr c99
    subst c99
    rw [if_neg (show ¬ (false = true) by decide)] at H
    obtain rfl := Option.some.inj H
    exact spec_ProvesVerdict.e0
   ·rw [if_neg c96] at H
    have c96b0 : (a2_0 == 2) = false := beq_eq_false_iff_ne.mpr c96
    have c96b1 : (a2_0 != 2) = true := bne_iff_ne.mpr c96
    obtain rfl := Option.some.inj H
    exact spec_ProvesVerdict.e0

/-! ### impl_VerdictName: function 23 -/
def impl_VerdictName.f (a0 : Int) : Option ByteArray := if a0 = 0 then some ⟨#[98, 97, 100]⟩ else if a0 = 1 then some ⟨#[115, 97, 102, 101]⟩ else if a0 = 2 then some ⟨#[99, 121, 99, 108, 105, 99]⟩ else some ⟨#[]⟩
theorem impl_VerdictName.in_ (a : Int) (b : Bool) (h : decide (0 ≤ a ∧ a ≤ 2) = b) : impl_inside.f a 0 2 = some b := by
 unfold impl_inside.f
 by_cases h0 : 0 ≤ a
 rotate_left
 ·rw [if_neg h0, ← h]
  simp [h0]
 rw [if_pos h0, ← h]
 simp [h0]
set_option maxHeartbeats 1000000 in
theorem impl_VerdictName.calls (a0 : Int) (r : ByteArray) (w : World) (h : impl_VerdictName.f a0 = some r) :
  Calls Tryz.prog 23 #[.int .i64 a0] w fun e w' => e = .returned (.string r) ∧ Drawn0 w w' := by
 unfold impl_VerdictName.f at h
 by_cases c0 : a0 = 0
 ·subst c0
  rw [if_pos rfl] at h
  obtain rfl := Option.some.inj h
  clear h
  have HI := Aside0.mk (impl_VerdictName.in_ 0 true (by decide))
  have hix : ∀ W : World, (Instr.index 81 (.agg #[.string ⟨#[98, 97, 100]⟩, .string ⟨#[115, 97, 102, 101]⟩, .string ⟨#[99, 121, 99, 108, 105, 99]⟩]) (.int .i64 0)).run Tryz.prog W = .ok (.string ⟨#[98, 97, 100]⟩) W := fun W => by rfl
  go_enter Tryz.func23, Tryz.ntmps23
  go_wp2_with (go_at_call 52; (with_reducible refine (impl_inside.calls 0 0 2 true _ HI.out).mono ?_); rintro e w' ⟨rfl, ⟨nd, rfl⟩⟩)
  go_ret
  exact ⟨by first | rfl | (simp; done), by repeat (first | exact Drawn0.refl _ | apply Drawn0.step)⟩
 by_cases c1 : a0 = 1
 ·subst c1
  rw [if_neg (by decide), if_pos rfl] at h
  obtain rfl := Option.some.inj h
  clear h
  have HI := Aside0.mk (impl_VerdictName.in_ 1 true (by decide))
  have hix : ∀ W : World, (Instr.index 81 (.agg #[.string ⟨#[98, 97, 100]⟩, .string ⟨#[115, 97, 102, 101]⟩, .string ⟨#[99, 121, 99, 108, 105, 99]⟩]) (.int .i64 1)).run Tryz.prog W = .ok (.string ⟨#[115, 97, 102, 101]⟩) W := fun W => by rfl
  go_enter Tryz.func23, Tryz.ntmps23
  go_wp2_with (go_at_call 52; (with_reducible refine (impl_inside.calls 1 0 2 true _ HI.out).mono ?_); rintro e w' ⟨rfl, ⟨nd, rfl⟩⟩)
  go_ret
  exact ⟨by first | rfl | (simp; done), by repeat (first | exact Drawn0.refl _ | apply Drawn0.step)⟩
 by_cases c2 : a0 = 2
 ·subst c2
  rw [if_neg (by decide), if_neg (by decide), if_pos rfl] at h
  obtain rfl := Option.some.inj h
  clear h
  have HI := Aside0.mk (impl_VerdictName.in_ 2 true (by decide))
  have hix : ∀ W : World, (Instr.index 81 (.agg #[.string ⟨#[98, 97, 100]⟩, .string ⟨#[115, 97, 102, 101]⟩, .string ⟨#[99, 121, 99, 108, 105, 99]⟩]) (.int .i64 2)).run Tryz.prog W = .ok (.string ⟨#[99, 121, 99, 108, 105, 99]⟩) W := fun W => by rfl
  go_enter Tryz.func23, Tryz.ntmps23
  go_wp2_with (go_at_call 52; (with_reducible refine (impl_inside.calls 2 0 2 true _ HI.out).mono ?_); rintro e w' ⟨rfl, ⟨nd, rfl⟩⟩)
  go_ret
  exact ⟨by first | rfl | (simp; done), by repeat (first | exact Drawn0.refl _ | apply Drawn0.step)⟩
 ·rw [if_neg c0, if_neg c1, if_neg c2] at h
  obtain rfl := Option.some.inj h
  clear h
  have HI := Aside0.mk (impl_VerdictName.in_ a0 false (by rw [decide_eq_false_iff_not]; omega))
  clear c0 c1 c2
  go_enter Tryz.func23, Tryz.ntmps23
  go_wp2_with (go_at_call 52; (with_reducible refine (impl_inside.calls a0 0 2 false _ HI.out).mono ?_); rintro e w' ⟨rfl, ⟨nd, rfl⟩⟩)
  go_ret
  exact ⟨by first | rfl | (simp; done), by repeat (first | exact Drawn0.refl _ | apply Drawn0.step)⟩

/-! ### laws_FnVerdicts: function 4 -/
def laws_FnVerdicts.f (k : Nat) (l0 : List Int) : Option (Bool) := (laws_big.f l0).bind fun t614 => (if t614 = true then (some true) else ((spec_DrawCheckTable.f k l0).bind fun bt615 => ((impl_CheckTable.f k bt615.1 bt615.2.1 bt615.2.2.1 bt615.2.2.2).bind fun bt625 => ((impl_ProvesVerdict.f k bt615.1 bt615.2.1 bt615.2.2.1 bt615.2.2.2 bt625.1 bt625.2.1 bt625.2.2).bind fun t633 => (if t633 = true then ((spec_ProvesVerdict.f k bt615.1 bt615.2.1 bt615.2.2.1 bt615.2.2.2 bt625.1 bt625.2.1 bt625.2.2).bind fun t634 => (if t634 = true then ((impl_VerdictName.f bt625.1).bind fun t635 => (if t635.toList = ([] : List UInt8) then (none) else ((impl_TableOk.f k bt615.1 bt615.2.1 bt615.2.2.1 bt615.2.2.2).bind fun t636 => (some ((bt625.1 == 0) == (!t636)))))) else (none))) else (none))))))
theorem laws_FnVerdicts.mono : ∀ a0 k, LeO (laws_FnVerdicts.f k a0) (laws_FnVerdicts.f (k + 1) a0) := by
 intro a0 k
 unfold laws_FnVerdicts.f
 repeat' (with_reducible first | exact impl_CheckTable.mono .. | exact impl_ProvesVerdict.mono .. | exact impl_TableOk.mono .. | exact spec_DrawCheckTable.mono .. | exact spec_ProvesVerdict.mono .. | exact LeO.refl .. | exact LeO.none .. | refine LeO.ite ?_ ?_ | refine LeO.bind ?_ (fun _ => ?_))
def laws_FnVerdicts.T5 : Bool × List (List Nat × List Nat) := (true, [([], []), ([], []), ([], []), ([0, 1, 2], [0, 1, 2]), ([3, 3], [3]), ([4], [4]), ([4], [4]), ([4], [4]), ([5, 6, 7, 4, 4], [4, 5, 6, 7]), ([4, 8], [4, 8]), ([9, 8], [9]), ([10], [10]), ([11, 10], [10, 11]), ([12, 10, 10], [10, 12]), ([13, 10], [10, 13]), ([10, 14], [10, 14]), ([15, 13], [15]), ([16], [16]), ([17, 16], [16, 17]), ([18, 16], [16, 18]), ([16], [16]), ([16], [16]), ([20, 21, 16, 16], [16, 20, 21]), ([22, 16], [16, 22]), ([19, 23, 16], [16, 19, 23]), ([16, 24], [16, 24]), ([25, 22, 0, 1, 2, 3, 4, 5, 6, 7, 8, 9, 10, 11, 12, 13, 14, 15, 16, 17, 18, 19, 20, 21, 22, 23, 24, 25], [25])])
def laws_FnVerdicts.B5 : List Nat := [0, 0, 0, 7, 15, 31, 31, 31, 255, 511, 1023, 2047, 4095, 8191, 16383, 32767, 65535, 131071, 262143, 524287, 131071, 131071, 3276799, 7471103, 16777215, 33554431, 67108863]
theorem laws_FnVerdicts.tab5 : rtab .any (opsOf Tryz.f4 5) = laws_FnVerdicts.T5 := by kernel_rfl
theorem laws_FnVerdicts.bits5 : waitsOk laws_FnVerdicts.T5.2 laws_FnVerdicts.B5 = true := by kernel_rfl
theorem laws_FnVerdicts.calls (k : Nat) (A0 : Option Addr) (c0 : Nat) (l0 : List Int) (r : Bool) (w : World) (hr0 : Kd.C (Kd.int .u8) w A0 l0.length l0) (hc0 : l0.length ≤ c0) (h : laws_FnVerdicts.f k l0 = some r) :
  Calls Tryz.prog 4 #[.slice A0 l0.length c0] w fun e w' => e = .returned (.bool r) ∧ Below w.heap.size w w' := by
 have hu38 := Tryz.underlying38
 have hu40 := Tryz.underlying40
 have hu34 := Tryz.underlying34
 have HR0 := Aside0.mk hr0
 have HC0 := Aside0.mk hc0
 clear hr0 hc0
 have HB := Aside0.mk (Below.refl w.heap.size w)
 have H : ((laws_big.f l0).bind fun t614 => (if t614 = true then (some true) else ((spec_DrawCheckTable.f k l0).bind fun bt615 => ((impl_CheckTable.f k bt615.1 bt615.2.1 bt615.2.2.1 bt615.2.2.2).bind fun bt625 => ((impl_ProvesVerdict.f k bt615.1 bt615.2.1 bt615.2.2.1 bt615.2.2.2 bt625.1 bt625.2.1 bt625.2.2).bind fun t633 => (if t633 = true then ((spec_ProvesVerdict.f k bt615.1 bt615.2.1 bt615.2.2.1 bt615.2.2.2 bt625.1 bt625.2.1 bt625.2.2).bind fun t634 => (if t634 = true then ((impl_VerdictName.f bt625.1).bind fun t635 => (if t635.toList = ([] : List UInt8) then (none) else ((impl_TableOk.f k bt615.1 bt615.2.1 bt615.2.2.1 bt615.2.2.2).bind fun t636 => (some ((bt625.1 == 0) == (!t636)))))) else (none))) else (none))))))) = some r := h
 clear h
 obtain ⟨t614, A2, H⟩ := bi_ H
 by_cases c3 : t614 = true
 ·subst c3
  rw [if_pos rfl] at H
  obtain rfl := Option.some.inj H
  go_enter Tryz.func4, Tryz.ntmps4
  go_wp2_with (first | ((with_reducible refine gate_callee (f := 18) rfl ?_); refine gm_ (some 7) Tryz.func18 #[.slice A0 l0.length c0] rfl ?_; (with_reducible refine (laws_big.calls _ _ l0 true _ ?side1 HC0.out A2.out).mono ?_); (case side1 => repeat (first | exact HR0.out | (with_reducible refine Kd.C_alloc ?_ _) | (with_reducible refine Kd.C_drewN ?_ _) | (with_reducible refine Kd.C_drew ?_))); rintro e w' ⟨rfl, ⟨nd, rfl⟩⟩; refine ⟨_, rfl, ?_⟩))
  go_ret
  exact ⟨fin_, bb_ HB.out⟩
 ·replace c3 := Bool.eq_false_iff.mpr c3
  subst c3
  rw [if_neg (show ¬ (false = true) by decide)] at H
  obtain ⟨⟨t615, t616, t617, t620⟩, A4, H⟩ := bi_ H
  try dsimp only at H
  obtain ⟨⟨t625, t626, t629⟩, A5, H⟩ := bi_ H
  try dsimp only at H
  obtain ⟨t633, A6, H⟩ := bi_ H
  by_cases c7 : t633 = true
  ·subst c7
   rw [if_pos rfl] at H
   obtain ⟨t634, A8, H⟩ := bi_ H
   by_cases c9 : t634 = true
   rotate_left
   ·replace c9 := Bool.eq_false_iff.mpr c9
    subst c9
    rw [if_neg (show ¬ (false = true) by decide)] at H
    exact absurd H (by simp)
   subst c9
   rw [if_pos rfl] at H
   obtain ⟨t635, A10, H⟩ := bi_ H
   by_cases c11 : t635.toList = ([] : List UInt8)
   ·rw [if_pos c11] at H
    exact absurd H (by simp)
   rw [if_neg c11] at H
   have c11b0 : (t635.toList == ([] : List UInt8)) = false := beq_eq_false_iff_ne.mpr c11
   have c11b1 : (t635.toList != ([] : List UInt8)) = true := bne_iff_ne.mpr c11
   obtain ⟨t636, A12, H⟩ := bi_ H
   obtain rfl := Option.some.inj H
   go_enter Tryz.func4, Tryz.ntmps4
   try go_wp2_with (first | ((with_reducible refine gate_callee (f := 18) rfl ?_); refine gm_ (some 7) Tryz.func18 #[.slice A0 l0.length c0] rfl ?_; (with_reducible refine (laws_big.calls _ _ l0 false _ ?side1 HC0.out A2.out).mono ?_); (case side1 => repeat (first | exact HR0.out | (with_reducible refine Kd.C_alloc ?_ _) | (with_reducible refine Kd.C_drewN ?_ _) | (with_reducible refine Kd.C_drew ?_))); rintro e w' ⟨rfl, ⟨nd, rfl⟩⟩; refine ⟨_, rfl, ?_⟩) | ((with_reducible refine gate_callee (f := 19) rfl ?_); refine gm_ (some 10) Tryz.func19 #[.slice A0 l0.length c0] rfl ?_; (with_reducible refine (spec_DrawCheckTable.calls k _ _ l0 t615 t616 t617 t620 _ ?side1 HC0.out A4.out).mono ?_); (case side1 => repeat (first | exact HR0.out | (with_reducible refine Kd.C_alloc ?_ _) | (with_reducible refine Kd.C_drewN ?_ _) | (with_reducible refine Kd.C_drew ?_))); rintro e w13 ⟨v618, v621, rfl, ho0, ho1, hb⟩; refine ⟨_, rfl, ?_⟩; have HO619 := Aside0.mk (Kd.R_lower ho0 (bz_ HB.out)); have HO622 := Aside0.mk (Kd.Q_lower ho1 (bz_ HB.out)); replace HB := hs_ HB hb; (try clear hb); (try clear ho0); (try clear ho1)) | ((with_reducible refine gate_dst (N := 3) rfl ?_); refine box_event ?hg (N := 3) ?hd (cs := #[.int .i64 0, .int .i64 0, .slice none 0 0]) (t := 38) ?hr ?_; (case hd => rfl); (case hg => rfl); (case hr => first | (go_simp; done) | (go_simp; rfl)); intro gb623 hg w14 hbox hb; replace HO619 := rb_ HO619 hb; replace HO622 := Aside0.mk (Kd.Q_below (by (with_reducible repeat (first | apply Kd.Q_alloc | apply Kd.Q_drewN | apply Kd.Q_drew)); exact HO622.out) hb); have BK623 := Aside0.mk (hbox); have GW623 := gw_ hg HB; have GE623 := gw_ hg HB; replace HB := hs_ HB hb; clear hb hbox hg) | ((with_reducible refine gate_dst (N := 4) rfl ?_); refine box_event ?hg (N := 4) ?hd (cs := #[.slice none 0 0]) (t := 40) ?hr ?_; (case hd => rfl); (case hg => rfl); (case hr => first | (go_simp; done) | (go_simp; rfl)); intro gb624 hg w15 hbox hb; replace HO619 := rb_ HO619 hb; replace HO622 := Aside0.mk (Kd.Q_below (by (with_reducible repeat (first | apply Kd.Q_alloc | apply Kd.Q_drewN | apply Kd.Q_drew)); exact HO622.out) hb); have BK624 := Aside0.mk (hbox); have GW624 := gw_ hg HB; have GE624 := gw_ hg HB; replace HB := hs_ HB hb; have NB623_624 := nl_ hg BK623; have NB624_623 := ng_ hg BK623; replace BK623 := kb_ BK623 hb; clear hb hbox hg; have hnb16 := NB623_624.out; have hnc16 := NB624_623.out; obtain ⟨hcz17_0, hcz17_1, hcz17_2, hfz17_0, hfz17_1, hfz17_2⟩ := cz3_ BK623.out; obtain ⟨Ao18, co18, eo18⟩ := Kd.R_slice HO619.out; subst eo18; obtain ⟨Ao19, co19, eo19, _⟩ := Kd.Q_slice HO622.out; subst eo19; obtain ⟨hcz20_0, hfz20_0⟩ := cz1_ BK624.out) | ((with_reducible refine gate_callee (f := 20) rfl ?_); refine gm_ (some 15) Tryz.func20 #[.agg #[.int .i64 t615, .int .i64 t616, .slice Ao18 t617.length co18], .agg #[.slice Ao19 t620.length co19]] rfl ?_; (with_reducible refine (impl_CheckTable.calls k t615 t616 _ _ t617 _ _ t620 t625 t626 t629 _ ?side1 ?side2 ?side3 ?side4 A5.out).mono ?_); (case side1 => refine (Kd.R_reads' (e := 3) (base := w.heap.size) (ok := fun k_ => some k_ ≠ (.slice Ao19 t620.length co19 : Value).ownBlock) (n := t617.length) (c := co18) ?_).2.2; exact (rm_ (Kd.R_mono (Kd.R_far (p := ⟨gb624, 0, none⟩) (Kd.R_far (p := ⟨gb623, 2, none⟩) (Kd.R_far (p := ⟨gb623, 1, none⟩) (Kd.R_far (p := ⟨gb623, 0, none⟩) (Kd.R_types (Kd.R_types HO619.out BK623.out (by decide)) BK624.out (by decide)) (fun _ hk => hk.1.2) (.int .i64 t615)) (fun _ hk => hk.1.2) (.int .i64 t616)) (fun _ hk => hk.1.2) (.slice Ao18 t617.length co18)) (fun _ hk => hk.2) (.slice Ao19 t620.length co19)) (fun _ h_ => h_.1)) (fun _ h_ => h_.1))); (case side2 => exact (Kd.R_reads' HO619.out).2.1); (case side3 => refine (Kd.Q_reads' (e := 3) (base := w.heap.size) (ok := fun k_ => some k_ ≠ (.slice Ao18 t617.length co18 : Value).ownBlock) (n := t620.length) (c := co19) ?_).2.2; exact (by (with_reducible repeat (first | apply Kd.Q_alloc | apply Kd.Q_drewN | apply Kd.Q_drew)); exact (Kd.Q_mono (Kd.Q_mono (Kd.Q_far (p := ⟨gb624, 0, none⟩) (Kd.Q_far (p := ⟨gb623, 2, none⟩) (Kd.Q_far (p := ⟨gb623, 1, none⟩) (Kd.Q_far (p := ⟨gb623, 0, none⟩) (Kd.Q_types (Kd.Q_types HO622.out BK623.out (by decide)) BK624.out (by decide)) (fun _ hk => hk.1.2) (.int .i64 t615)) (fun _ hk => hk.1.2) (.int .i64 t616)) (fun _ hk => hk.1.2) (.slice Ao18 t617.length co18)) (fun _ hk => hk.2) (.slice Ao19 t620.length co19)) (fun _ h_ => h_.1)) (fun _ h_ => h_.1)))); (case side4 => exact (Kd.Q_reads' HO622.out).2.1); rintro e w21 ⟨v627, v630, rfl, ho0, ho1, hb⟩; refine ⟨_, rfl, ?_⟩; have HO628 := Aside0.mk (Kd.R_lower (Kd.R_new' (Kd.R_new' ho0 (Kd.R_lt (rm_ (Kd.R_mono (Kd.R_far (p := ⟨gb624, 0, none⟩) (Kd.R_far (p := ⟨gb623, 2, none⟩) (Kd.R_far (p := ⟨gb623, 1, none⟩) (Kd.R_far (p := ⟨gb623, 0, none⟩) (Kd.R_types (Kd.R_types HO619.out BK623.out (by decide)) BK624.out (by decide)) (fun _ hk => hk.1.2) (.int .i64 t615)) (fun _ hk => hk.1.2) (.int .i64 t616)) (fun _ hk => hk.1.2) (.slice Ao18 t617.length co18)) (fun _ hk => hk.2) (.slice Ao19 t620.length co19)) (fun _ h_ => h_.1)) (fun _ h_ => h_.1)))) (Kd.Q_lt (by (with_reducible repeat (first | apply Kd.Q_alloc | apply Kd.Q_drewN | apply Kd.Q_drew)); exact (Kd.Q_mono (Kd.Q_mono (Kd.Q_far (p := ⟨gb624, 0, none⟩) (Kd.Q_far (p := ⟨gb623, 2, none⟩) (Kd.Q_far (p := ⟨gb623, 1, none⟩) (Kd.Q_far (p := ⟨gb623, 0, none⟩) (Kd.Q_types (Kd.Q_types HO622.out BK623.out (by decide)) BK624.out (by decide)) (fun _ hk => hk.1.2) (.int .i64 t615)) (fun _ hk => hk.1.2) (.int .i64 t616)) (fun _ hk => hk.1.2) (.slice Ao18 t617.length co18)) (fun _ hk => hk.2) (.slice Ao19 t620.length co19)) (fun _ h_ => h_.1)) (fun _ h_ => h_.1))))) (bz_ HB.out)); have HO631 := Aside0.mk (Kd.R_lower (Kd.R_new' (Kd.R_new' ho1 (Kd.R_lt (rm_ (Kd.R_mono (Kd.R_far (p := ⟨gb624, 0, none⟩) (Kd.R_far (p := ⟨gb623, 2, none⟩) (Kd.R_far (p := ⟨gb623, 1, none⟩) (Kd.R_far (p := ⟨gb623, 0, none⟩) (Kd.R_types (Kd.R_types HO619.out BK623.out (by decide)) BK624.out (by decide)) (fun _ hk => hk.1.2) (.int .i64 t615)) (fun _ hk => hk.1.2) (.int .i64 t616)) (fun _ hk => hk.1.2) (.slice Ao18 t617.length co18)) (fun _ hk => hk.2) (.slice Ao19 t620.length co19)) (fun _ h_ => h_.1)) (fun _ h_ => h_.1)))) (Kd.Q_lt (by (with_reducible repeat (first | apply Kd.Q_alloc | apply Kd.Q_drewN | apply Kd.Q_drew)); exact (Kd.Q_mono (Kd.Q_mono (Kd.Q_far (p := ⟨gb624, 0, none⟩) (Kd.Q_far (p := ⟨gb623, 2, none⟩) (Kd.Q_far (p := ⟨gb623, 1, none⟩) (Kd.Q_far (p := ⟨gb623, 0, none⟩) (Kd.Q_types (Kd.Q_types HO622.out BK623.out (by decide)) BK624.out (by decide)) (fun _ hk => hk.1.2) (.int .i64 t615)) (fun _ hk => hk.1.2) (.int .i64 t616)) (fun _ hk => hk.1.2) (.slice Ao18 t617.length co18)) (fun _ hk => hk.2) (.slice Ao19 t620.length co19)) (fun _ h_ => h_.1)) (fun _ h_ => h_.1))))) (bz_ HB.out)); replace HO619 := Aside0.mk (Kd.R_mono (Kd.R_told (Kd.R_told (Kd.R_old (rm_ (Kd.R_mono (Kd.R_far (p := ⟨gb624, 0, none⟩) (Kd.R_far (p := ⟨gb623, 2, none⟩) (Kd.R_far (p := ⟨gb623, 1, none⟩) (Kd.R_far (p := ⟨gb623, 0, none⟩) (Kd.R_types (Kd.R_types HO619.out BK623.out (by decide)) BK624.out (by decide)) (fun _ hk => hk.1.2) (.int .i64 t615)) (fun _ hk => hk.1.2) (.int .i64 t616)) (fun _ hk => hk.1.2) (.slice Ao18 t617.length co18)) (fun _ hk => hk.2) (.slice Ao19 t620.length co19)) (fun _ h_ => h_.1)) (fun _ h_ => h_.1)) hb) (Kd.R_base ho0)) (Kd.R_base ho1)) (fun _ h_ => h_.1)); replace HO622 := Aside0.mk (Kd.Q_mono (Kd.Q_told (Kd.Q_told (Kd.Q_old (by (with_reducible repeat (first | apply Kd.Q_alloc | apply Kd.Q_drewN | apply Kd.Q_drew)); exact (Kd.Q_mono (Kd.Q_mono (Kd.Q_far (p := ⟨gb624, 0, none⟩) (Kd.Q_far (p := ⟨gb623, 2, none⟩) (Kd.Q_far (p := ⟨gb623, 1, none⟩) (Kd.Q_far (p := ⟨gb623, 0, none⟩) (Kd.Q_types (Kd.Q_types HO622.out BK623.out (by decide)) BK624.out (by decide)) (fun _ hk => hk.1.2) (.int .i64 t615)) (fun _ hk => hk.1.2) (.int .i64 t616)) (fun _ hk => hk.1.2) (.slice Ao18 t617.length co18)) (fun _ hk => hk.2) (.slice Ao19 t620.length co19)) (fun _ h_ => h_.1)) (fun _ h_ => h_.1))) hb) (Kd.R_base ho0)) (Kd.R_base ho1)) (fun _ h_ => h_.1)); replace BK623 := Aside0.mk (blk_below (g := gb623) (o := .cells #[.int .i64 t615, .int .i64 t616, .slice Ao18 t617.length co18] 38 (0, 0)) (by (with_reducible repeat (first | refine blk_drewN ?_ _ | refine blk_drew ?_ | refine blk_alloc ?_ _)); refine blk_far ?_ NB623_624.out _; (with_reducible repeat (first | refine blk_drewN ?_ _ | refine blk_drew ?_ | refine blk_alloc ?_ _)); refine blk_put (cs := #[.int .i64 t615, .int .i64 t616, .slice none 0 0]) ?_ 2 _ rfl; (with_reducible repeat (first | refine blk_drewN ?_ _ | refine blk_drew ?_ | refine blk_alloc ?_ _)); refine blk_put (cs := #[.int .i64 t615, .int .i64 0, .slice none 0 0]) ?_ 1 _ rfl; (with_reducible repeat (first | refine blk_drewN ?_ _ | refine blk_drew ?_ | refine blk_alloc ?_ _)); refine blk_put (cs := #[.int .i64 0, .int .i64 0, .slice none 0 0]) ?_ 0 _ rfl; (with_reducible repeat (first | refine blk_drewN ?_ _ | refine blk_drew ?_ | refine blk_alloc ?_ _)); exact BK623.out) hb); replace BK624 := Aside0.mk (blk_below (g := gb624) (o := .cells #[.slice Ao19 t620.length co19] 40 (0, 0)) (by (with_reducible repeat (first | refine blk_drewN ?_ _ | refine blk_drew ?_ | refine blk_alloc ?_ _)); refine blk_put (cs := #[.slice none 0 0]) ?_ 0 _ rfl; (with_reducible repeat (first | refine blk_drewN ?_ _ | refine blk_drew ?_ | refine blk_alloc ?_ _)); refine blk_far ?_ NB624_623.out _; (with_reducible repeat (first | refine blk_drewN ?_ _ | refine blk_drew ?_ | refine blk_alloc ?_ _)); refine blk_far ?_ NB624_623.out _; (with_reducible repeat (first | refine blk_drewN ?_ _ | refine blk_drew ?_ | refine blk_alloc ?_ _)); refine blk_far ?_ NB624_623.out _; (with_reducible repeat (first | refine blk_drewN ?_ _ | refine blk_drew ?_ | refine blk_alloc ?_ _)); exact BK624.out) hb); replace HB := hs_ HB hb; (try clear hb); (try clear ho0); (try clear ho1)) | ((with_reducible refine gate_dst (N := 5) rfl ?_); refine box_event ?hg (N := 5) ?hd (cs := #[.int .i64 0, .slice none 0 0, .slice none 0 0]) (t := 34) ?hr ?_; (case hd => rfl); (case hg => rfl); (case hr => first | (go_simp; done) | (go_simp; rfl)); intro gb632 hg w22 hbox hb; replace HO619 := rb_ HO619 hb; replace HO622 := Aside0.mk (Kd.Q_below (by (with_reducible repeat (first | apply Kd.Q_alloc | apply Kd.Q_drewN | apply Kd.Q_drew)); exact HO622.out) hb); replace HO628 := rb_ HO628 hb; replace HO631 := rb_ HO631 hb; have BK632 := Aside0.mk (hbox); have GW632 := gw_ hg HB; have GE632 := gw_ hg HB; replace HB := hs_ HB hb; have NB623_632 := nl_ hg BK623; have NB632_623 := ng_ hg BK623; replace BK623 := kb_ BK623 hb; have NB624_632 := nl_ hg BK624; have NB632_624 := ng_ hg BK624; replace BK624 := kb_ BK624 hb; clear hb hbox hg; have hnb23 := NB632_623.out; have hnc23 := NB623_632.out; have hnb24 := NB632_624.out; have hnc24 := NB624_632.out; obtain ⟨hcz25_0, hcz25_1, hcz25_2, hfz25_0, hfz25_1, hfz25_2⟩ := cz3_ BK632.out; obtain ⟨Ao26, co26, eo26⟩ := Kd.R_slice HO628.out; subst eo26; obtain ⟨Ao27, co27, eo27⟩ := Kd.R_slice HO631.out; subst eo27))
   have n0_ : Aside0 (Kd.R (Kd.int .i64) 3 (((w22.setCell ⟨gb632, 0, none⟩ (.int .i64 t625)).setCell ⟨gb632, 1, none⟩ (.slice Ao26 t626.length co26)).setCell ⟨gb632, 2, none⟩ (.slice Ao27 t629.length co27)) w.heap.size (fun k_ => some k_ ≠ (.slice Ao19 t620.length co19 : Value).ownBlock ∧ some k_ ≠ (.slice Ao26 t626.length co26 : Value).ownBlock ∧ some k_ ≠ (.slice Ao27 t629.length co27 : Value).ownBlock) (.slice Ao18 t617.length co18) t617) := ⟨rm_ (Kd.R_types HO619.out BK632.out (by decide)) (fun _ hk => ⟨hk.1.1.1, ⟨hk.1.1.2, hk.1.2⟩⟩)⟩
   have n1_ : Aside0 (Kd.Q (Kd.int .i64) 3 (((w22.setCell ⟨gb632, 0, none⟩ (.int .i64 t625)).setCell ⟨gb632, 1, none⟩ (.slice Ao26 t626.length co26)).setCell ⟨gb632, 2, none⟩ (.slice Ao27 t629.length co27)) w.heap.size (fun k_ => some k_ ≠ (.slice Ao18 t617.length co18 : Value).ownBlock ∧ some k_ ≠ (.slice Ao26 t626.length co26 : Value).ownBlock ∧ some k_ ≠ (.slice Ao27 t629.length co27 : Value).ownBlock) (.slice Ao19 t620.length co19) t620) := ⟨by (with_reducible repeat (first | apply Kd.Q_alloc | apply Kd.Q_drewN | apply Kd.Q_drew)); exact Kd.Q_mono (Kd.Q_far (p := ⟨gb632, 2, none⟩) (Kd.Q_far (p := ⟨gb632, 1, none⟩) (Kd.Q_far (p := ⟨gb632, 0, none⟩) (Kd.Q_types HO622.out BK632.out (by decide)) (fun _ hk => hk.2) (.int .i64 t625)) (fun _ hk => hk.2) (.slice Ao26 t626.length co26)) (fun _ hk => hk.2) (.slice Ao27 t629.length co27)) (fun _ hk => ⟨hk.1.1.1, ⟨hk.1.1.2, hk.1.2⟩⟩)⟩
   have n2_ : Aside0 (Kd.R (Kd.int .i64) 3 (((w22.setCell ⟨gb632, 0, none⟩ (.int .i64 t625)).setCell ⟨gb632, 1, none⟩ (.slice Ao26 t626.length co26)).setCell ⟨gb632, 2, none⟩ (.slice Ao27 t629.length co27)) w.heap.size (fun k_ => some k_ ≠ (.slice Ao18 t617.length co18 : Value).ownBlock ∧ some k_ ≠ (.slice Ao19 t620.length co19 : Value).ownBlock ∧ some k_ ≠ (.slice Ao27 t629.length co27 : Value).ownBlock) (.slice Ao26 t626.length co26) t626) := ⟨rm_ (Kd.R_types HO628.out BK632.out (by decide)) (fun _ hk => ⟨hk.1.1.2, ⟨hk.1.2, hk.1.1.1⟩⟩)⟩
   have n3_ : Aside0 (Kd.R (Kd.int .i64) 3 (((w22.setCell ⟨gb632, 0, none⟩ (.int .i64 t625)).setCell ⟨gb632, 1, none⟩ (.slice Ao26 t626.length co26)).setCell ⟨gb632, 2, none⟩ (.slice Ao27 t629.length co27)) w.heap.size (fun k_ => some k_ ≠ (.slice Ao18 t617.length co18 : Value).ownBlock ∧ some k_ ≠ (.slice Ao19 t620.length co19 : Value).ownBlock ∧ some k_ ≠ (.slice Ao26 t626.length co26 : Value).ownBlock) (.slice Ao27 t629.length co27) t629) := ⟨rm_ (Kd.R_types HO631.out BK632.out (by decide)) (fun _ hk => ⟨hk.1.1.2, ⟨hk.1.2, hk.1.1.1⟩⟩)⟩
   have n4_ : Aside0 ((((w22.setCell ⟨gb632, 0, none⟩ (.int .i64 t625)).setCell ⟨gb632, 1, none⟩ (.slice Ao26 t626.length co26)).setCell ⟨gb632, 2, none⟩ (.slice Ao27 t629.length co27)).heap[gb623]? = some (.cells #[.int .i64 t615, .int .i64 t616, .slice Ao18 t617.length co18] 38 (0, 0))) := ⟨by (with_reducible repeat (first | refine blk_drewN ?_ _ | refine blk_drew ?_ | refine blk_alloc ?_ _)); refine blk_far ?_ NB623_632.out _; (with_reducible repeat (first | refine blk_drewN ?_ _ | refine blk_drew ?_ | refine blk_alloc ?_ _)); refine blk_far ?_ NB623_632.out _; (with_reducible repeat (first | refine blk_drewN ?_ _ | refine blk_drew ?_ | refine blk_alloc ?_ _)); refine blk_far ?_ NB623_632.out _; (with_reducible repeat (first | refine blk_drewN ?_ _ | refine blk_drew ?_ | refine blk_alloc ?_ _)); exact BK623.out⟩
   have n5_ : Aside0 ((((w22.setCell ⟨gb632, 0, none⟩ (.int .i64 t625)).setCell ⟨gb632, 1, none⟩ (.slice Ao26 t626.length co26)).setCell ⟨gb632, 2, none⟩ (.slice Ao27 t629.length co27)).heap[gb624]? = some (.cells #[.slice Ao19 t620.length co19] 40 (0, 0))) := ⟨by (with_reducible repeat (first | refine blk_drewN ?_ _ | refine blk_drew ?_ | refine blk_alloc ?_ _)); refine blk_far ?_ NB624_632.out _; (with_reducible repeat (first | refine blk_drewN ?_ _ | refine blk_drew ?_ | refine blk_alloc ?_ _)); refine blk_far ?_ NB624_632.out _; (with_reducible repeat (first | refine blk_drewN ?_ _ | refine blk_drew ?_ | refine blk_alloc ?_ _)); refine blk_far ?_ NB624_632.out _; (with_reducible repeat (first | refine blk_drewN ?_ _ | refine blk_drew ?_ | refine blk_alloc ?_ _)); exact BK624.out⟩
   have n6_ : Aside0 ((((w22.setCell ⟨gb632, 0, none⟩ (.int .i64 t625)).setCell ⟨gb632, 1, none⟩ (.slice Ao26 t626.length co26)).setCell ⟨gb632, 2, none⟩ (.slice Ao27 t629.length co27)).heap[gb632]? = some (.cells #[.int .i64 t625, .slice Ao26 t626.length co26, .slice Ao27 t629.length co27] 34 (0, 0))) := ⟨by (with_reducible repeat (first | refine blk_drewN ?_ _ | refine blk_drew ?_ | refine blk_alloc ?_ _)); refine blk_put (cs := #[.int .i64 t625, .slice Ao26 t626.length co26, .slice none 0 0]) ?_ 2 _ rfl; (with_reducible repeat (first | refine blk_drewN ?_ _ | refine blk_drew ?_ | refine blk_alloc ?_ _)); refine blk_put (cs := #[.int .i64 t625, .slice none 0 0, .slice none 0 0]) ?_ 1 _ rfl; (with_reducible repeat (first | refine blk_drewN ?_ _ | refine blk_drew ?_ | refine blk_alloc ?_ _)); refine blk_put (cs := #[.int .i64 0, .slice none 0 0, .slice none 0 0]) ?_ 0 _ rfl; (with_reducible repeat (first | refine blk_drewN ?_ _ | refine blk_drew ?_ | refine blk_alloc ?_ _)); exact BK632.out⟩
   have n7_ : Aside0 (Below w.heap.size w (((w22.setCell ⟨gb632, 0, none⟩ (.int .i64 t625)).setCell ⟨gb632, 1, none⟩ (.slice Ao26 t626.length co26)).setCell ⟨gb632, 2, none⟩ (.slice Ao27 t629.length co27))) := ⟨bb_ HB.out⟩
   (try clear HO619)
   (try clear HO622)
   (try clear HO628)
   (try clear HO631)
   (try clear BK623)
   (try clear BK624)
   (try clear BK632)
   (try clear HB)
   generalize (((w22.setCell ⟨gb632, 0, none⟩ (.int .i64 t625)).setCell ⟨gb632, 1, none⟩ (.slice Ao26 t626.length co26)).setCell ⟨gb632, 2, none⟩ (.slice Ao27 t629.length co27)) = w28 at n0_ n1_ n2_ n3_ n4_ n5_ n6_ n7_ ⊢
   have HO619 := n0_
   have HO622 := n1_
   have HO628 := n2_
   have HO631 := n3_
   have BK623 := n4_
   have BK624 := n5_
   have BK632 := n6_
   have HB := n7_
   clear n0_ n1_ n2_ n3_ n4_ n5_ n6_ n7_
   replace HO619 := Aside0.mk (Kd.R_drew HO619.out)
   replace HO622 := Aside0.mk (Kd.Q_drew HO622.out)
   replace HO628 := Aside0.mk (Kd.R_drew HO628.out)
   replace HO631 := Aside0.mk (Kd.R_drew HO631.out)
   replace BK623 := Aside0.mk (blk_drew BK623.out)
   replace BK624 := Aside0.mk (blk_drew BK624.out)
   replace BK632 := Aside0.mk (blk_drew BK632.out)
   replace HB := Aside0.mk (below_drew1 HB.out)
   refine start_ (n := 27) (S := fun w' => w'.cell? ⟨gb623, 0, none⟩ = some (.int .i64 t615) ∧ w'.cell? ⟨gb623, 1, none⟩ = some (.int .i64 t616) ∧ w'.cell? ⟨gb623, 2, none⟩ = some (.slice Ao18 t617.length co18) ∧ w'.cell? ⟨gb624, 0, none⟩ = some (.slice Ao19 t620.length co19) ∧ w'.cell? ⟨gb632, 0, none⟩ = some (.int .i64 t625) ∧ w'.cell? ⟨gb632, 1, none⟩ = some (.slice Ao26 t626.length co26) ∧ w'.cell? ⟨gb632, 2, none⟩ = some (.slice Ao27 t629.length co27)) (ds := []) #[false, false, false, false, false, false, false, false, false, false, false, false, false, false, false, false, false, false, false, false, false, false, false, false, false, false, false] (by kernel_rfl) rfl rfl ⟨(blk_cell BK623.out 0).trans rfl, (blk_cell BK623.out 1).trans rfl, (blk_cell BK623.out 2).trans rfl, (blk_cell BK624.out 0).trans rfl, (blk_cell BK632.out 0).trans rfl, (blk_cell BK632.out 1).trans rfl, (blk_cell BK632.out 2).trans rfl⟩ (fun hHeld => ?_); refine with_tabW laws_FnVerdicts.tab5 laws_FnVerdicts.bits5 (fun HT_ HW_ => ?_)
   generalize w28.drew = w29 at HO619 HO622 HO628 HO631 BK623 BK624 BK632 HB hHeld ⊢
   refine take_ (i := 0) (N := some 16) (v := ?_) (a' := ?_) (bt_ 27 1) rfl rfl (take_ofW HT_.out HW_.out (by kernel_rfl)) (fun _ _ _ h => h) (Or.inl ⟨by rfl, ?_⟩) hHeld ?_ ?_
   rotate_left
   ·rintro w' ⟨s0, s1, s2, s3, s4, s5, s6⟩
    go_simp
    with_reducible rfl
   rotate_left
   ·simp only [Act.put, List.setIfInBounds_toArray, List.set_cons_zero, List.set_cons_succ, i64_w, i32_w]
    rfl
   refine take_ (i := 1) (N := some 17) (v := ?_) (a' := ?_) (bt_ 27 3) rfl rfl (take_ofW HT_.out HW_.out (by kernel_rfl)) (fun _ _ _ h => h) (Or.inl ⟨by rfl, ?_⟩) hHeld ?_ ?_
   rotate_left
   ·rintro w' ⟨s0, s1, s2, s3, s4, s5, s6⟩
    go_simp
    with_reducible rfl
   rotate_left
   ·simp only [Act.put, List.setIfInBounds_toArray, List.set_cons_zero, List.set_cons_succ, i64_w, i32_w]
    rfl
   refine take_ (i := 2) (N := some 18) (v := ?_) (a' := ?_) (bt_ 27 7) rfl rfl (take_ofW HT_.out HW_.out (by kernel_rfl)) (fun _ _ _ h => h) (Or.inl ⟨by rfl, ?_⟩) hHeld ?_ ?_
   rotate_left
   ·rintro w' ⟨s0, s1, s2, s3, s4, s5, s6⟩
    go_simp
    with_reducible rfl
   rotate_left
   ·simp only [Act.put, List.setIfInBounds_toArray, List.set_cons_zero, List.set_cons_succ, i64_w, i32_w]
    rfl
   refine one_ (i := 3) (N := some 19) (bt_ 27 15) rfl rfl (one_of HT_.out (by kernel_rfl)) (by decide) (fun K hK => ?_)
   refine goes_ Tryz.func21 (by kernel_rfl) rfl #[.agg #[.int .i64 t615, .int .i64 t616, .slice Ao18 t617.length co18], .agg #[.slice Ao19 t620.length co19], .agg #[.int .i64 t625, .slice Ao26 t626.length co26, .slice Ao27 t629.length co27]] (by rfl) rfl rfl (by (try simp only [List.map_toArray, List.map_cons, List.map_nil]); first | done | rfl | (simp only [List.length_drop, List.length_take]; rfl)) ?_
   with_reducible refine (impl_ProvesVerdict.calls k t615 t616 _ _ t617 _ _ t620 t625 _ _ t626 _ _ t629 true _ ?side1 ?side2 ?side3 ?side4 ?side5 ?side6 ?side7 ?side8 A6.out).mono ?_
   (case side1 => exact rr_ HO619)
   (case side2 => exact (Kd.R_reads' HO619.out).2.1)
   (case side3 => repeat (first | exact (Kd.Q_reads' HO622.out).2.2 | (with_reducible refine Kd.C_alloc ?_ _) | (with_reducible refine Kd.C_drewN ?_ _) | (with_reducible refine Kd.C_drew ?_)))
   (case side4 => exact (Kd.Q_reads' HO622.out).2.1)
   (case side5 => exact rr_ HO628)
   (case side6 => exact (Kd.R_reads' HO628.out).2.1)
   (case side7 => exact rr_ HO631)
   (case side8 => exact (Kd.R_reads' HO631.out).2.1)
   rintro e w30 ⟨rfl, hb⟩
   refine ⟨_, rfl, ?_⟩
   replace HO619 := rb_ HO619 hb
   replace HO622 := Aside0.mk (Kd.Q_below (by (with_reducible repeat (first | apply Kd.Q_alloc | apply Kd.Q_drewN | apply Kd.Q_drew)); exact HO622.out) hb)
   replace HO628 := rb_ HO628 hb
   replace HO631 := rb_ HO631 hb
   replace BK623 := kb_ BK623 hb
   replace BK624 := kb_ BK624 hb
   replace BK632 := kb_ BK632 hb
   replace HB := hs_ HB hb
   (try clear hb)
   (try clear hk)
   refine hK.out _ _ ⟨(blk_cell BK623.out 0).trans rfl, (blk_cell BK623.out 1).trans rfl, (blk_cell BK623.out 2).trans rfl, (blk_cell BK624.out 0).trans rfl, (blk_cell BK632.out 0).trans rfl, (blk_cell BK632.out 1).trans rfl, (blk_cell BK632.out 2).trans rfl⟩ (fun hHeld => ?_)
   clear hK K
   refine norm_ (a' := ?_) ?_ ?_
   rotate_left
   ·show Act.put _ (some 19) _ = _
    simp only [Act.put, List.setIfInBounds_toArray, List.set_cons_zero, List.set_cons_succ, i64_w, i32_w]
    rfl
   refine pu_ 4 20 (bt_ 27 31) HT_ ?_
   refine take_ (i := 5) (N := some 21) (v := ?_) (a' := ?_) (bt_ 27 63) rfl rfl (take_ofW HT_.out HW_.out (by kernel_rfl)) (fun _ _ _ h => h) (Or.inl ⟨by rfl, ?_⟩) hHeld ?_ ?_
   rotate_left
   ·rintro w' ⟨s0, s1, s2, s3, s4, s5, s6⟩
    go_simp
    with_reducible rfl
   rotate_left
   ·simp only [Act.put, List.setIfInBounds_toArray, List.set_cons_zero, List.set_cons_succ, i64_w, i32_w]
    rfl
   refine take_ (i := 6) (N := some 22) (v := ?_) (a' := ?_) (bt_ 27 127) rfl rfl (take_ofW HT_.out HW_.out (by kernel_rfl)) (fun _ _ _ h => h) (Or.inl ⟨by rfl, ?_⟩) hHeld ?_ ?_
   rotate_left
   ·rintro w' ⟨s0, s1, s2, s3, s4, s5, s6⟩
    go_simp
    with_reducible rfl
   rotate_left
   ·simp only [Act.put, List.setIfInBounds_toArray, List.set_cons_zero, List.set_cons_succ, i64_w, i32_w]
    rfl
   refine take_ (i := 7) (N := some 23) (v := ?_) (a' := ?_) (bt_ 27 255) rfl rfl (take_ofW HT_.out HW_.out (by kernel_rfl)) (fun _ _ _ h => h) (Or.inl ⟨by rfl, ?_⟩) hHeld ?_ ?_
   rotate_left
   ·rintro w' ⟨s0, s1, s2, s3, s4, s5, s6⟩
    go_simp
    with_reducible rfl
   rotate_left
   ·simp only [Act.put, List.setIfInBounds_toArray, List.set_cons_zero, List.set_cons_succ, i64_w, i32_w]
    rfl
   refine one_ (i := 8) (N := some 24) (bt_ 27 511) rfl rfl (one_of HT_.out (by kernel_rfl)) (by decide) (fun K hK => ?_)
   refine goes_ Tryz.func22 (by kernel_rfl) rfl #[.agg #[.int .i64 t615, .int .i64 t616, .slice Ao18 t617.length co18], .agg #[.slice Ao19 t620.length co19], .agg #[.int .i64 t625, .slice Ao26 t626.length co26, .slice Ao27 t629.length co27]] (by rfl) rfl rfl (by (try simp only [List.map_toArray, List.map_cons, List.map_nil]); first | done | rfl | (simp only [List.length_drop, List.length_take]; rfl)) ?_
   with_reducible refine (spec_ProvesVerdict.calls k t615 t616 _ _ t617 _ _ t620 t625 _ _ t626 _ _ t629 true _ ?side1 ?side2 ?side3 ?side4 ?side5 ?side6 ?side7 ?side8 A8.out).mono ?_
   (case side1 => exact rr_ HO619)
   (case side2 => exact (Kd.R_reads' HO619.out).2.1)
   (case side3 => repeat (first | exact (Kd.Q_reads' HO622.out).2.2 | (with_reducible refine Kd.C_alloc ?_ _) | (with_reducible refine Kd.C_drewN ?_ _) | (with_reducible refine Kd.C_drew ?_)))
   (case side4 => exact (Kd.Q_reads' HO622.out).2.1)
   (case side5 => exact rr_ HO628)
   (case side6 => exact (Kd.R_reads' HO628.out).2.1)
   (case side7 => exact rr_ HO631)
   (case side8 => exact (Kd.R_reads' HO631.out).2.1)
   rintro e w31 ⟨rfl, hb⟩
   refine ⟨_, rfl, ?_⟩
   replace HO619 := rb_ HO619 hb
   replace HO622 := Aside0.mk (Kd.Q_below (by (with_reducible repeat (first | apply Kd.Q_alloc | apply Kd.Q_drewN | apply Kd.Q_drew)); exact HO622.out) hb)
   replace HO628 := rb_ HO628 hb
   replace HO631 := rb_ HO631 hb
   replace BK623 := kb_ BK623 hb
   replace BK624 := kb_ BK624 hb
   replace BK632 := kb_ BK632 hb
   replace HB := hs_ HB hb
   (try clear hb)
   (try clear hk)
   refine hK.out _ _ ⟨(blk_cell BK623.out 0).trans rfl, (blk_cell BK623.out 1).trans rfl, (blk_cell BK623.out 2).trans rfl, (blk_cell BK624.out 0).trans rfl, (blk_cell BK632.out 0).trans rfl, (blk_cell BK632.out 1).trans rfl, (blk_cell BK632.out 2).trans rfl⟩ (fun hHeld => ?_)
   clear hK K
   refine norm_ (a' := ?_) ?_ ?_
   rotate_left
   ·show Act.put _ (some 24) _ = _
    simp only [Act.put, List.setIfInBounds_toArray, List.set_cons_zero, List.set_cons_succ, i64_w, i32_w]
    rfl
   refine pu_ 9 25 (bt_ 27 1023) HT_ ?_
   refine pu_ 10 26 (bt_ 27 2047) HT_ ?_
   refine pu_ 11 27 (bt_ 27 4095) HT_ ?_
   refine take_ (i := 12) (N := some 28) (v := ?_) (a' := ?_) (bt_ 27 8191) rfl rfl (take_ofW HT_.out HW_.out (by kernel_rfl)) (fun _ _ _ h => h) (Or.inl ⟨by rfl, ?_⟩) hHeld ?_ ?_
   rotate_left
   ·rintro w' ⟨s0, s1, s2, s3, s4, s5, s6⟩
    go_simp
    with_reducible rfl
   rotate_left
   ·simp only [Act.put, List.setIfInBounds_toArray, List.set_cons_zero, List.set_cons_succ, i64_w, i32_w]
    rfl
   refine one_ (i := 13) (N := some 29) (bt_ 27 16383) rfl rfl (one_of HT_.out (by kernel_rfl)) (by decide) (fun K hK => ?_)
   refine goes_ Tryz.func23 (by kernel_rfl) rfl #[.int .i64 t625] (by rfl) rfl rfl (by (try simp only [List.map_toArray, List.map_cons, List.map_nil]); first | done | rfl | (simp only [List.length_drop, List.length_take]; rfl)) ?_
   with_reducible refine (impl_VerdictName.calls t625 t635 _ A10.out).mono ?_
   rintro e w' ⟨rfl, ⟨nd, rfl⟩⟩
   refine ⟨_, rfl, ?_⟩
   refine hK.out _ _ ⟨(blk_cell BK623.out 0).trans rfl, (blk_cell BK623.out 1).trans rfl, (blk_cell BK623.out 2).trans rfl, (blk_cell BK624.out 0).trans rfl, (blk_cell BK632.out 0).trans rfl, (blk_cell BK632.out 1).trans rfl, (blk_cell BK632.out 2).trans rfl⟩ (fun hHeld => ?_)
   clear hK K
   refine norm_ (a' := ?_) ?_ ?_
   rotate_left
   ·show Act.put _ (some 29) _ = _
    simp only [Act.put, List.setIfInBounds_toArray, List.set_cons_zero, List.set_cons_succ, i64_w, i32_w]
    rfl
   refine pu_ 14 30 (bt_ 27 32767) HT_ ?_
   refine pu_ 15 31 (bt_ 27 65535) HT_ ?_
   refine pu_ 16 32 (bt_ 27 131071) HT_ ?_
   refine pu_ 17 33 (bt_ 27 262143) HT_ ?_
   refine take_ (i := 18) (N := some 34) (v := ?_) (a' := ?_) (bt_ 27 524287) rfl rfl (take_ofW HT_.out HW_.out (by kernel_rfl)) (fun _ _ _ h => h) (Or.inl ⟨by rfl, ?_⟩) hHeld ?_ ?_
   rotate_left
   ·rintro w' ⟨s0, s1, s2, s3, s4, s5, s6⟩
    go_simp
    with_reducible rfl
   rotate_left
   ·simp only [Act.put, List.setIfInBounds_toArray, List.set_cons_zero, List.set_cons_succ, i64_w, i32_w]
    rfl
   refine pu_ 19 35 (bt_ 27 1048575) HT_ ?_
   refine take_ (i := 20) (N := some 36) (v := ?_) (a' := ?_) (bt_ 27 2097151) rfl rfl (take_ofW HT_.out HW_.out (by kernel_rfl)) (fun _ _ _ h => h) (Or.inl ⟨by rfl, ?_⟩) hHeld ?_ ?_
   rotate_left
   ·rintro w' ⟨s0, s1, s2, s3, s4, s5, s6⟩
    go_simp
    with_reducible rfl
   rotate_left
   ·simp only [Act.put, List.setIfInBounds_toArray, List.set_cons_zero, List.set_cons_succ, i64_w, i32_w]
    rfl
   refine take_ (i := 21) (N := some 37) (v := ?_) (a' := ?_) (bt_ 27 4194303) rfl rfl (take_ofW HT_.out HW_.out (by kernel_rfl)) (fun _ _ _ h => h) (Or.inl ⟨by rfl, ?_⟩) hHeld ?_ ?_
   rotate_left
   ·rintro w' ⟨s0, s1, s2, s3, s4, s5, s6⟩
    go_simp
    with_reducible rfl
   rotate_left
   ·simp only [Act.put, List.setIfInBounds_toArray, List.set_cons_zero, List.set_cons_succ, i64_w, i32_w]
    rfl
   refine one_ (i := 22) (N := some 38) (bt_ 27 8388607) rfl rfl (one_of HT_.out (by kernel_rfl)) (by decide) (fun K hK => ?_)
   refine goes_ Tryz.func24 (by kernel_rfl) rfl #[.agg #[.int .i64 t615, .int .i64 t616, .slice Ao18 t617.length co18], .agg #[.slice Ao19 t620.length co19]] (by rfl) rfl rfl (by (try simp only [List.map_toArray, List.map_cons, List.map_nil]); first | done | rfl | (simp only [List.length_drop, List.length_take]; rfl)) ?_
   with_reducible refine (impl_TableOk.calls k t615 t616 _ _ t617 _ _ t620 t636 _ ?side1 ?side2 ?side3 ?side4 A12.out).mono ?_
   (case side1 => exact rr_ HO619)
   (case side2 => exact (Kd.R_reads' HO619.out).2.1)
   (case side3 => repeat (first | exact (Kd.Q_reads' HO622.out).2.2 | (with_reducible refine Kd.C_alloc ?_ _) | (with_reducible refine Kd.C_drewN ?_ _) | (with_reducible refine Kd.C_drew ?_)))
   (case side4 => exact (Kd.Q_reads' HO622.out).2.1)
   rintro e w32 ⟨rfl, hb⟩
   refine ⟨_, rfl, ?_⟩
   replace HO619 := rb_ HO619 hb
   replace HO622 := Aside0.mk (Kd.Q_below (by (with_reducible repeat (first | apply Kd.Q_alloc | apply Kd.Q_drewN | apply Kd.Q_drew)); exact HO622.out) hb)
   replace HO628 := rb_ HO628 hb
   replace HO631 := rb_ HO631 hb
   replace BK623 := kb_ BK623 hb
   replace BK624 := kb_ BK624 hb
   replace BK632 := kb_ BK632 hb
   replace HB := hs_ HB hb
   (try clear hb)
   (try clear hk)
   refine hK.out _ _ ⟨(blk_cell BK623.out 0).trans rfl, (blk_cell BK623.out 1).trans rfl, (blk_cell BK623.out 2).trans rfl, (blk_cell BK624.out 0).trans rfl, (blk_cell BK632.out 0).trans rfl, (blk_cell BK632.out 1).trans rfl, (blk_cell BK632.out 2).trans rfl⟩ (fun hHeld => ?_)
   clear hK K
   refine norm_ (a' := ?_) ?_ ?_
   rotate_left
   ·show Act.put _ (some 38) _ = _
    simp only [Act.put, List.setIfInBounds_toArray, List.set_cons_zero, List.set_cons_succ, i64_w, i32_w]
    rfl
   refine pu_ 23 39 (bt_ 27 16777215) HT_ ?_
   refine pu_ 24 40 (bt_ 27 33554431) HT_ ?_
   refine pu_ 25 41 (bt_ 27 67108863) HT_ ?_
   refine pu_ 26 2 (bt_ 27 134217727) HT_ ?_
   refine done_ (done_of HT_.out (by kernel_rfl)) ?_
   try go_wp2
   go_ret
   exact ⟨fin_, bb_ HB.out⟩
  ·replace c7 := Bool.eq_false_iff.mpr c7
   subst c7
   rw [if_neg (show ¬ (false = true) by decide)] at H
   exact absurd H (by simp)

/-- THE ONE PURE STATEMENT of laws_FnVerdicts: yours. -/
def laws_FnVerdicts.Pure : Prop := ∀ (l0 : List Int), l0.length ≤ maxLen → l0.length * 1 ≤ 140737488351232 → (∀ x ∈ l0, (Lit.int .u8 x).wf = true) → ∃ k, laws_FnVerdicts.f k l0 = some true
theorem laws_FnVerdicts.walk (P : laws_FnVerdicts.Pure) (a0 : Option Addr) (len0 cap0 : Nat) (z0 : List Int) (w : World) (w0 : (a0 = none ∧ len0 = 0 ∧ cap0 = 0 ∧ z0 = []) ∨ ∃ x, a0 = some x ∧ len0 ≤ cap0 ∧ cap0 ≤ maxLen ∧ z0.length = cap0 ∧ (∀ i, i < z0.length → w.cell? (x.add i) = some (.int .u8 (z0.getD i 0))) ∧ ∀ n ∈ z0, (Lit.int .u8 n).wf = true) (y0 : len0 * 1 ≤ 140737488351232) :
  Calls Tryz.prog 4 #[.slice a0 len0 cap0] w fun e w' => e = .returned (.bool true) ∧ Below w.heap.size w w' := by
 obtain ⟨l0, rfl, hr0, hm0, hw0, hc0⟩ := ReadsInt.ofRowC w0
 obtain ⟨k, h⟩ := P l0 hm0 y0 hw0
 refine (laws_FnVerdicts.calls k _ _ l0 true w (Kd.C_of_reads (d := (0 : Int)) (h1 := fun _ => rfl) hr0) hc0 h).mono ?_
 rintro e w' ⟨rfl, hd⟩
 exact ⟨rfl, hd⟩

end Go.Proofs.YtimdefbpoddoaaaGreat.PFnVerdicts
-- thin
