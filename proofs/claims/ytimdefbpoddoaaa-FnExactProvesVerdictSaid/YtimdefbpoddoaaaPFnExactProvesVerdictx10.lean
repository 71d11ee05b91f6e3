/- Each function that the law comes to, as a plain function, with the proof that the call in the model gives what that function says (written by a program of this session out of the translation). No condition. -/
import Derived.Test.YtimdefbpoddoaaaPFnExactProvesVerdictx0
import Derived.Test.YtimdefbpoddoaaaPFnExactProvesVerdictx2
import Derived.Test.YtimdefbpoddoaaaPFnExactProvesVerdictx5
import Derived.Test.YtimdefbpoddoaaaPFnExactProvesVerdictx7
import Derived.Test.YtimdefbpoddoaaaPFnExactProvesVerdictx9
namespace Go.Proofs.Ytimdefbpoddoaaa.PFnExactProvesVerdict
open Go.RowKit Go.Proofs.YtimdefbpoddoaaaW.PrintWords Go.Proofs.YtimdefbpoddoaaaW.PrintLast Go.Proofs.YtimdefbpoddoaaaW.PrintMore
attribute [local go_sem] max2_int min2_int max_two min_two max_three min_three max_four min_four   -- for this text's walks alone
set_option linter.unusedVariables false
set_option linter.unusedSimpArgs false

/-! ### spec_ProvesVerdict: function 42 -/
def spec_ProvesVerdict.f (k : Nat) (a0_0 : Int) (a0_1 : Int) (l0_2 : List Int) (l1_0 : List Int) (a2_0 : Int) (l2_1 : List Int) (l2_2 : List Int) : Option (Bool) := (spec_TableOk.f k a0_0 a0_1 l0_2 l1_0).bind fun t300 => ((spec_DependsOf.f k a0_0 a0_1 l0_2 l1_0).bind fun t301 => (if a2_0 = 0 then (if t300 = true then (some false) else (if (l2_1.length : Int) = 0 then (some ((l2_2.length : Int) == 0)) else (some false))) else (if a2_0 = 1 then (if t300 = true then ((spec_IsOrder.f k t301 l2_1).bind fun t304 => (if t304 = true then (some ((l2_2.length : Int) == 0)) else (some false))) else (some false)) else (if a2_0 = 2 then (if t300 = true then ((spec_IsCycle.f k t301 l2_2).bind fun t305 => (if t305 = true then (some ((l2_1.length : Int) == 0)) else (some false))) else (some false)) else (some false)))))
theorem spec_ProvesVerdict.mono : ∀ a0 a1 a2 a3 a4 a5 a6 k, LeO (spec_ProvesVerdict.f k a0 a1 a2 a3 a4 a5 a6) (spec_ProvesVerdict.f (k + 1) a0 a1 a2 a3 a4 a5 a6) := by
 intro a0 a1 a2 a3 a4 a5 a6 k
 unfold spec_ProvesVerdict.f
 repeat' first
   | (with_reducible exact spec_DependsOf.mono _ _ _ _ _)
   | (with_reducible exact spec_IsCycle.mono _ _ _)
   | (with_reducible exact spec_IsOrder.mono _ _ _)
   | (with_reducible exact spec_TableOk.mono _ _ _ _ _)
   | (with_reducible exact LeO.refl _)
   | (with_reducible exact LeO.none _)
   | (with_reducible refine LeO.ite ?_ ?_)
   | (with_reducible refine LeO.bind ?_ (fun _ => ?_))
   | exact spec_DependsOf.mono _ _ _ _ _
   | exact spec_IsCycle.mono _ _ _
   | exact spec_IsOrder.mono _ _ _
   | exact spec_TableOk.mono _ _ _ _ _
   | exact LeO.none _
   | refine LeO.ite ?_ ?_
   | refine LeO.bind ?_ (fun _ => ?_)
theorem spec_ProvesVerdict.e0 {P : Prop} (h : P := by
 go_enter Try.func42, Try.ntmps42
 go_wp2_with (first | ((with_reducible refine gate_dst (N := 3) rfl ?_); (try (refine gate_guard (by rfl) ?_; dsimp only)); refine box_event ?hg (N := 3) ?hd (cs := #[.int .i64 a0_0, .int .i64 a0_1, .slice A0_2 l0_2.length c0_2]) (t := 44) ?hr ?_; (case hd => rfl); (case hg => rfl); (case hr => first | (go_simp; done) | (go_simp; rfl)); intro gb297 hg w_0 hbox hb; have BK297 := Aside0.mk (hbox); have GW297 := Aside0.mk ((by rw [hg]; exact (bz_ HB.out) : w.heap.size ≤ gb297)); have GE297 := Aside0.mk ((by rw [hg]; exact (bz_ HB.out) : w.heap.size ≤ gb297)); replace HB := Aside0.mk (bs_ HB.out hb); clear hb hbox hg) | ((with_reducible refine gate_dst (N := 4) rfl ?_); (try (refine gate_guard (by rfl) ?_; dsimp only)); refine box_event ?hg (N := 4) ?hd (cs := #[.slice A1_0 l1_0.length c1_0]) (t := 46) ?hr ?_; (case hd => rfl); (case hg => rfl); (case hr => first | (go_simp; done) | (go_simp; rfl)); intro gb298 hg w_0 hbox hb; have BK298 := Aside0.mk (hbox); have GW298 := Aside0.mk ((by rw [hg]; exact (bz_ HB.out) : w.heap.size ≤ gb298)); have GE298 := Aside0.mk ((by rw [hg]; exact (bz_ HB.out) : w.heap.size ≤ gb298)); replace HB := Aside0.mk (bs_ HB.out hb); have NB297_298 := Aside0.mk ((by rw [hg]; exact Nat.ne_of_lt (bl_ BK297.out) : gb297 ≠ gb298)); have NB298_297 := Aside0.mk ((by rw [hg]; exact Nat.ne_of_gt (bl_ BK297.out) : gb298 ≠ gb297)); replace BK297 := Aside0.mk (bk_ BK297.out hb); clear hb hbox hg) | ((with_reducible refine gate_dst (N := 5) rfl ?_); (try (refine gate_guard (by rfl) ?_; dsimp only)); refine box_event ?hg (N := 5) ?hd (cs := #[.int .i64 a2_0, .slice A2_1 l2_1.length c2_1, .slice A2_2 l2_2.length c2_2]) (t := 40) ?hr ?_; (case hd => rfl); (case hg => rfl); (case hr => first | (go_simp; done) | (go_simp; rfl)); intro gb299 hg w_0 hbox hb; have BK299 := Aside0.mk (hbox); have GW299 := Aside0.mk ((by rw [hg]; exact (bz_ HB.out) : w.heap.size ≤ gb299)); have GE299 := Aside0.mk ((by rw [hg]; exact (bz_ HB.out) : w.heap.size ≤ gb299)); replace HB := Aside0.mk (bs_ HB.out hb); have NB297_299 := Aside0.mk ((by rw [hg]; exact Nat.ne_of_lt (bl_ BK297.out) : gb297 ≠ gb299)); have NB299_297 := Aside0.mk ((by rw [hg]; exact Nat.ne_of_gt (bl_ BK297.out) : gb299 ≠ gb297)); replace BK297 := Aside0.mk (bk_ BK297.out hb); have NB298_299 := Aside0.mk ((by rw [hg]; exact Nat.ne_of_lt (bl_ BK298.out) : gb298 ≠ gb299)); have NB299_298 := Aside0.mk ((by rw [hg]; exact Nat.ne_of_gt (bl_ BK298.out) : gb299 ≠ gb298)); replace BK298 := Aside0.mk (bk_ BK298.out hb); clear hb hbox hg; have hnb_ := NB297_298.out; have hnc_ := NB298_297.out; have hnb_ := NB297_299.out; have hnc_ := NB299_297.out; obtain ⟨hcz_0, hcz_1, hcz_2, hfz_0, hfz_1, hfz_2⟩ := cz3_ BK297.out; have hnb_ := NB298_299.out; have hnc_ := NB299_298.out; obtain ⟨hcz__0, hfz__0⟩ := cz1_ BK298.out) | ((with_reducible refine gate_callee (f := 73) rfl ?_); refine gm_ (some 11) Try.func73 #[.agg #[.int .i64 a0_0, .int .i64 a0_1, .slice A0_2 l0_2.length c0_2], .agg #[.slice A1_0 l1_0.length c1_0]] rfl ?_; (with_reducible refine (spec_TableOk.calls k a0_0 a0_1 _ _ l0_2 _ _ l1_0 _ _ ?side1 HC0_2.out ?side3 HC1_0.out A4.out).mono ?_); (case side1 => exact cb_ HR0_2.out HB.out); (case side3 => exact cb_ HR1_0.out HB.out); rintro e w_0 ⟨rfl, hb⟩; refine ⟨_, rfl, ?_⟩; replace BK297 := Aside0.mk (bk_ BK297.out hb); replace BK298 := Aside0.mk (bk_ BK298.out hb); replace BK299 := Aside0.mk (bk_ BK299.out hb); replace HB := Aside0.mk (bs_ HB.out hb); (try clear hb); obtain ⟨hcz_0, hcz_1, hcz_2, hfz_0, hfz_1, hfz_2⟩ := cz3_ BK297.out; obtain ⟨hcz__0, hfz__0⟩ := cz1_ BK298.out) | ((with_reducible refine gate_callee (f := 74) rfl ?_); refine gm_ (some 14) Try.func74 #[.agg #[.int .i64 a0_0, .int .i64 a0_1, .slice A0_2 l0_2.length c0_2], .agg #[.slice A1_0 l1_0.length c1_0]] rfl ?_; (with_reducible refine (spec_DependsOf.calls k a0_0 a0_1 _ _ l0_2 _ _ l1_0 t301 _ ?side1 HC0_2.out ?side3 HC1_0.out A5.out).mono ?_); (case side1 => exact cb_ HR0_2.out HB.out); (case side3 => exact cb_ HR1_0.out HB.out); rintro e w_0 ⟨v302, rfl, ho0, hb⟩; refine ⟨_, rfl, ?_⟩; have HO303 := Aside0.mk (Kd.R_lower ho0 (bz_ HB.out)); replace BK297 := Aside0.mk (bk_ BK297.out hb); replace BK298 := Aside0.mk (bk_ BK298.out hb); replace BK299 := Aside0.mk (bk_ BK299.out hb); replace HB := Aside0.mk (bs_ HB.out hb); (try clear hb); (try clear ho0); obtain ⟨hcz_0, hcz_1, hcz_2, hfz_0, hfz_1, hfz_2⟩ := cz3_ BK299.out; obtain ⟨Ao65, co65, eo65⟩ := Kd.R_slice HO303.out; subst eo65) | ((with_reducible refine gate_callee (f := 74) rfl ?_); refine gm_ (some 14) Try.func74 #[.agg #[.int .i64 a0_0, .int .i64 a0_1, .slice A0_2 l0_2.length c0_2], .agg #[.slice A1_0 l1_0.length c1_0]] rfl ?_; (with_reducible refine (spec_DependsOf.calls k a0_0 a0_1 _ _ l0_2 _ _ l1_0 t301 _ ?side1 HC0_2.out ?side3 HC1_0.out A5.out).mono ?_); (case side1 => exact cb_ HR0_2.out HB.out); (case side3 => exact cb_ HR1_0.out HB.out); rintro e w_0 ⟨v302, rfl, ho0, hb⟩; refine ⟨_, rfl, ?_⟩; have HO303 := Aside0.mk (Kd.R_lower ho0 (bz_ HB.out)); replace BK297 := Aside0.mk (bk_ BK297.out hb); replace BK298 := Aside0.mk (bk_ BK298.out hb); replace BK299 := Aside0.mk (bk_ BK299.out hb); replace HB := Aside0.mk (bs_ HB.out hb); (try clear hb); (try clear ho0); obtain ⟨hcz_0, hcz_1, hcz_2, hfz_0, hfz_1, hfz_2⟩ := cz3_ BK299.out; obtain ⟨Ao81, co81, eo81⟩ := Kd.R_slice HO303.out; subst eo81) | ((with_reducible refine gate_callee (f := 74) rfl ?_); refine gm_ (some 14) Try.func74 #[.agg #[.int .i64 a0_0, .int .i64 a0_1, .slice A0_2 l0_2.length c0_2], .agg #[.slice A1_0 l1_0.length c1_0]] rfl ?_; (with_reducible refine (spec_DependsOf.calls k a0_0 a0_1 _ _ l0_2 _ _ l1_0 t301 _ ?side1 HC0_2.out ?side3 HC1_0.out A5.out).mono ?_); (case side1 => exact cb_ HR0_2.out HB.out); (case side3 => exact cb_ HR1_0.out HB.out); rintro e w_0 ⟨v302, rfl, ho0, hb⟩; refine ⟨_, rfl, ?_⟩; have HO303 := Aside0.mk (Kd.R_lower ho0 (bz_ HB.out)); replace BK297 := Aside0.mk (bk_ BK297.out hb); replace BK298 := Aside0.mk (bk_ BK298.out hb); replace BK299 := Aside0.mk (bk_ BK299.out hb); replace HB := Aside0.mk (bs_ HB.out hb); (try clear hb); (try clear ho0); obtain ⟨hcz_0, hcz_1, hcz_2, hfz_0, hfz_1, hfz_2⟩ := cz3_ BK299.out; obtain ⟨Ao113, co113, eo113⟩ := Kd.R_slice HO303.out; subst eo113) | ((with_reducible refine gate_callee (f := 74) rfl ?_); refine gm_ (some 14) Try.func74 #[.agg #[.int .i64 a0_0, .int .i64 a0_1, .slice A0_2 l0_2.length c0_2], .agg #[.slice A1_0 l1_0.length c1_0]] rfl ?_; (with_reducible refine (spec_DependsOf.calls k a0_0 a0_1 _ _ l0_2 _ _ l1_0 t301 _ ?side1 HC0_2.out ?side3 HC1_0.out A5.out).mono ?_); (case side1 => exact cb_ HR0_2.out HB.out); (case side3 => exact cb_ HR1_0.out HB.out); rintro e w_0 ⟨v302, rfl, ho0, hb⟩; refine ⟨_, rfl, ?_⟩; have HO303 := Aside0.mk (Kd.R_lower ho0 (bz_ HB.out)); replace BK297 := Aside0.mk (bk_ BK297.out hb); replace BK298 := Aside0.mk (bk_ BK298.out hb); replace BK299 := Aside0.mk (bk_ BK299.out hb); replace HB := Aside0.mk (bs_ HB.out hb); (try clear hb); (try clear ho0); obtain ⟨hcz_0, hcz_1, hcz_2, hfz_0, hfz_1, hfz_2⟩ := cz3_ BK299.out; obtain ⟨Ao129, co129, eo129⟩ := Kd.R_slice HO303.out; subst eo129) | ((with_reducible refine gate_callee (f := 74) rfl ?_); refine gm_ (some 14) Try.func74 #[.agg #[.int .i64 a0_0, .int .i64 a0_1, .slice A0_2 l0_2.length c0_2], .agg #[.slice A1_0 l1_0.length c1_0]] rfl ?_; (with_reducible refine (spec_DependsOf.calls k a0_0 a0_1 _ _ l0_2 _ _ l1_0 t301 _ ?side1 HC0_2.out ?side3 HC1_0.out A5.out).mono ?_); (case side1 => exact cb_ HR0_2.out HB.out); (case side3 => exact cb_ HR1_0.out HB.out); rintro e w_0 ⟨v302, rfl, ho0, hb⟩; refine ⟨_, rfl, ?_⟩; have HO303 := Aside0.mk (Kd.R_lower ho0 (bz_ HB.out)); replace BK297 := Aside0.mk (bk_ BK297.out hb); replace BK298 := Aside0.mk (bk_ BK298.out hb); replace BK299 := Aside0.mk (bk_ BK299.out hb); replace HB := Aside0.mk (bs_ HB.out hb); (try clear hb); (try clear ho0); obtain ⟨hcz_0, hcz_1, hcz_2, hfz_0, hfz_1, hfz_2⟩ := cz3_ BK299.out) | (go_at_call 83; (with_reducible refine (spec_IsOrder.calls k _ _ t301 _ _ l2_1 _ _ ?side1 ?side2 ?side3 HC2_1.out A50.out).mono ?_); (case side1 => repeat (first | exact (Kd.R_reads' HO303.out).2.2 | (with_reducible refine Kd.C_alloc ?_ _) | (with_reducible refine Kd.C_drewN ?_ _) | (with_reducible refine Kd.C_drew ?_))); (case side2 => exact (Kd.R_reads' HO303.out).2.1); (case side3 => exact cb_ HR2_1.out HB.out); rintro e w_0 ⟨rfl, hb⟩; replace HO303 := Aside0.mk (Kd.R_below (ra_ HO303.out) hb); replace BK297 := Aside0.mk (bk_ BK297.out hb); replace BK298 := Aside0.mk (bk_ BK298.out hb); replace BK299 := Aside0.mk (bk_ BK299.out hb); replace HB := Aside0.mk (bs_ HB.out hb); (try clear hb); obtain ⟨hcz_0, hcz_1, hcz_2, hfz_0, hfz_1, hfz_2⟩ := cz3_ BK299.out) | (go_at_call 84; (with_reducible refine (spec_IsCycle.calls k _ _ t301 _ _ l2_2 _ _ ?side1 ?side2 ?side3 HC2_2.out A98.out).mono ?_); (case side1 => repeat (first | exact (Kd.R_reads' HO303.out).2.2 | (with_reducible refine Kd.C_alloc ?_ _) | (with_reducible refine Kd.C_drewN ?_ _) | (with_reducible refine Kd.C_drew ?_))); (case side2 => exact (Kd.R_reads' HO303.out).2.1); (case side3 => exact cb_ HR2_2.out HB.out); rintro e w_0 ⟨rfl, hb⟩; replace HO303 := Aside0.mk (Kd.R_below (ra_ HO303.out) hb); replace BK297 := Aside0.mk (bk_ BK297.out hb); replace BK298 := Aside0.mk (bk_ BK298.out hb); replace BK299 := Aside0.mk (bk_ BK299.out hb); replace HB := Aside0.mk (bs_ HB.out hb); (try clear hb); obtain ⟨hcz_0, hcz_1, hcz_2, hfz_0, hfz_1, hfz_2⟩ := cz3_ BK299.out) | ((with_reducible refine gate_callee (f := 73) rfl ?_); refine gm_ (some 11) Try.func73 #[.agg #[.int .i64 a0_0, .int .i64 a0_1, .slice A0_2 l0_2.length c0_2], .agg #[.slice A1_0 l1_0.length c1_0]] rfl ?_; (with_reducible refine (spec_TableOk.calls k a0_0 a0_1 _ _ l0_2 _ _ l1_0 t300 _ ?side1 HC0_2.out ?side3 HC1_0.out A4.out).mono ?_); (case side1 => exact cb_ HR0_2.out HB.out); (case side3 => exact cb_ HR1_0.out HB.out); rintro e w_0 ⟨rfl, hb⟩; refine ⟨_, rfl, ?_⟩; replace BK297 := Aside0.mk (bk_ BK297.out hb); replace BK298 := Aside0.mk (bk_ BK298.out hb); replace BK299 := Aside0.mk (bk_ BK299.out hb); replace HB := Aside0.mk (bs_ HB.out hb); (try clear hb); obtain ⟨hcz_0, hcz_1, hcz_2, hfz_0, hfz_1, hfz_2⟩ := cz3_ BK297.out; obtain ⟨hcz__0, hfz__0⟩ := cz1_ BK298.out))
 go_ret
 exact ⟨fin_, bb_ HB.out⟩) : P := h
set_option maxHeartbeats 8000000 in
set_option maxRecDepth 100000 in
theorem spec_ProvesVerdict.calls (k : Nat) (a0_0 : Int) (a0_1 : Int) (A0_2 : Option Addr) (c0_2 : Nat) (l0_2 : List Int) (A1_0 : Option Addr) (c1_0 : Nat) (l1_0 : List Int) (a2_0 : Int) (A2_1 : Option Addr) (c2_1 : Nat) (l2_1 : List Int) (A2_2 : Option Addr) (c2_2 : Nat) (l2_2 : List Int) (r : Bool) (w : World) (hr0_2 : Kd.C (Kd.int .i64) w A0_2 l0_2.length l0_2) (hc0_2 : l0_2.length ≤ c0_2) (hr1_0 : Kd.C (Kd.int .i64) w A1_0 l1_0.length l1_0) (hc1_0 : l1_0.length ≤ c1_0) (hr2_1 : Kd.C (Kd.int .i64) w A2_1 l2_1.length l2_1) (hc2_1 : l2_1.length ≤ c2_1) (hr2_2 : Kd.C (Kd.int .i64) w A2_2 l2_2.length l2_2) (hc2_2 : l2_2.length ≤ c2_2) (h : spec_ProvesVerdict.f k a0_0 a0_1 l0_2 l1_0 a2_0 l2_1 l2_2 = some r) :
  Calls Try.prog 42 #[.agg #[.int .i64 a0_0, .int .i64 a0_1, .slice A0_2 l0_2.length c0_2], .agg #[.slice A1_0 l1_0.length c1_0], .agg #[.int .i64 a2_0, .slice A2_1 l2_1.length c2_1, .slice A2_2 l2_2.length c2_2]] w fun e w' => e = .returned (.bool r) ∧ Below w.heap.size w w' := by
 have hu44 := Try.underlying44
 have hu46 := Try.underlying46
 have hu40 := Try.underlying40
 have HR0_2 := Aside0.mk hr0_2
 have HC0_2 := Aside0.mk hc0_2
 clear hr0_2 hc0_2
 have HR1_0 := Aside0.mk hr1_0
 have HC1_0 := Aside0.mk hc1_0
 clear hr1_0 hc1_0
 have HR2_1 := Aside0.mk hr2_1
 have HC2_1 := Aside0.mk hc2_1
 clear hr2_1 hc2_1
 have HR2_2 := Aside0.mk hr2_2
 have HC2_2 := Aside0.mk hc2_2
 clear hr2_2 hc2_2
 have HB := Aside0.mk (Below.refl w.heap.size w)
 have H : ((spec_TableOk.f k a0_0 a0_1 l0_2 l1_0).bind fun t300 => ((spec_DependsOf.f k a0_0 a0_1 l0_2 l1_0).bind fun t301 => (if a2_0 = 0 then (if t300 = true then (some false) else (if (l2_1.length : Int) = 0 then (some ((l2_2.length : Int) == 0)) else (some false))) else (if a2_0 = 1 then (if t300 = true then ((spec_IsOrder.f k t301 l2_1).bind fun t304 => (if t304 = true then (some ((l2_2.length : Int) == 0)) else (some false))) else (some false)) else (if a2_0 = 2 then (if t300 = true then ((spec_IsCycle.f k t301 l2_2).bind fun t305 => (if t305 = true then (some ((l2_1.length : Int) == 0)) else (some false))) else (some false)) else (some false)))))) = some r := h
 clear h
 replace H := Option.bind_eq_some_iff.mp H
 obtain ⟨t300, A40, H⟩ := H
 try dsimp only at H
 have A4 := Aside0.mk A40
 clear A40
 replace H := Option.bind_eq_some_iff.mp H
 obtain ⟨t301, A50, H⟩ := H
 try dsimp only at H
 have A5 := Aside0.mk A50
 clear A50
 by_cases c6 : a2_0 = 0
 ·rw [if_pos c6] at H
  have c6b0 : (a2_0 == 0) = true := beq_iff_eq.mpr c6
  have c6b1 : (a2_0 != 0) = false := bne_eq_false_iff_eq.mpr c6
  clear c6
  by_cases c7 : t300 = true
  ·subst c7
   rw [if_pos rfl] at H
   obtain rfl := Option.some.inj H
   exact spec_ProvesVerdict.e0
  ·replace c7 := Bool.eq_false_iff.mpr c7
   subst c7
   rw [if_neg (show ¬ (false = true) by decide)] at H
   by_cases c21 : (l2_1.length : Int) = 0
   ·rw [if_pos c21] at H
    have c21b0 : ((l2_1.length : Int) == 0) = true := beq_iff_eq.mpr c21
    have c21b1 : ((l2_1.length : Int) != 0) = false := bne_eq_false_iff_eq.mpr c21
    clear c21
    obtain rfl := Option.some.inj H
    exact spec_ProvesVerdict.e0
   ·rw [if_neg c21] at H
    have c21b0 : ((l2_1.length : Int) == 0) = false := beq_eq_false_iff_ne.mpr c21
    have c21b1 : ((l2_1.length : Int) != 0) = true := bne_iff_ne.mpr c21
    have c21b2 : ¬ (l2_1 = []) := fun h_ => c21 (by rw [h_]; rfl)
    obtain rfl := Option.some.inj H
    exact spec_ProvesVerdict.e0
 ·rw [if_neg c6] at H
  have c6b0 : (a2_0 == 0) = false := beq_eq_false_iff_ne.mpr c6
  have c6b1 : (a2_0 != 0) = true := bne_iff_ne.mpr c6
  by_cases c48 : a2_0 = 1
  ·rw [if_pos c48] at H
   have c48b0 : (a2_0 == 1) = true := beq_iff_eq.mpr c48
   have c48b1 : (a2_0 != 1) = false := bne_eq_false_iff_eq.mpr c48
   clear c48
   by_cases c49 : t300 = true
   ·subst c49
    rw [if_pos rfl] at H
    replace H := Option.bind_eq_some_iff.mp H
    obtain ⟨t304, A500, H⟩ := H
    try dsimp only at H
    have A50 := Aside0.mk A500
    clear A500
    by_cases c51 : t304 = true
    ·subst c51
     rw [if_pos rfl] at H
     obtain rfl := Option.some.inj H
     exact spec_ProvesVerdict.e0
    ·replace c51 := Bool.eq_false_iff.mpr c51
     subst c51
     rw [if_neg (show ¬ (false = true) by decide)] at H
     obtain rfl := Option.some.inj H
     exact spec_ProvesVerdict.e0
   ·replace c49 := Bool.eq_false_iff.mpr c49
    subst c49
    rw [if_neg (show ¬ (false = true) by decide)] at H
    obtain rfl := Option.some.inj H
    exact spec_ProvesVerdict.e0
  ·rw [if_neg c48] at H
   have c48b0 : (a2_0 == 1) = false := beq_eq_false_iff_ne.mpr c48
   have c48b1 : (a2_0 != 1) = true := bne_iff_ne.mpr c48
   by_cases c96 : a2_0 = 2
   ·rw [if_pos c96] at H
    have c96b0 : (a2_0 == 2) = true := beq_iff_eq.mpr c96
    have c96b1 : (a2_0 != 2) = false := bne_eq_false_iff_eq.mpr c96
    clear c96
    by_cases c97 : t300 = true
    ·subst c97
     rw [if_pos rfl] at H
     replace H := Option.bind_eq_some_iff.mp H
     obtain ⟨t305, A980, H⟩ := H
     try dsimp only at H
     have A98 := Aside0.mk A980
     clear A980
     by_cases c99 : t305 = true
     ·subst c99
      rw [if_pos rfl] at H
      obtain rfl := Option.some.inj H
      exact spec_ProvesVerdict.e0
     ·replace c99 := Bool.eq_false_iff.mpr c99
      subst c99
      rw [if_neg (show ¬ (false = true) by decide)] at H
      obtain rfl := Option.some.inj H
      exact spec_ProvesVerdict.e0
    ·replace c97 := Bool.eq_false_iff.mpr c97
     subst c97
     rw [if_neg (show ¬ (false = true) by decide)] at H
     obtain rfl := Option.some.inj H
     exact spec_ProvesVerdict.e0
   ·rw [if_neg c96] at H
    have c96b0 : (a2_0 == 2) = false := beq_eq_false_iff_ne.mpr c96
    have c96b1 : (a2_0 != 2) = true := bne_iff_ne.mpr c96
    obtain rfl := Option.some.inj H
    exact spec_ProvesVerdict.e0

/-! ### laws_toVerdict: function 43 -/
def laws_toVerdict.f (k : Nat) (a0_0 : Int) (l0_1 : List Int) (l0_2 : List Int) : Option (Int × List Int × List Int) := (laws_toIntS.f k l0_1).bind fun t309 => ((laws_toIntS.f k l0_2).bind fun t312 => (some (a0_0, t309, t312)))
theorem laws_toVerdict.mono : ∀ a0 a1 a2 k, LeO (laws_toVerdict.f k a0 a1 a2) (laws_toVerdict.f (k + 1) a0 a1 a2) := by
 intro a0 a1 a2 k
 unfold laws_toVerdict.f
 repeat' first
   | (with_reducible exact laws_toIntS.mono _ _)
   | (with_reducible exact LeO.refl _)
   | (with_reducible exact LeO.none _)
   | (with_reducible refine LeO.ite ?_ ?_)
   | (with_reducible refine LeO.bind ?_ (fun _ => ?_))
   | exact laws_toIntS.mono _ _
   | exact LeO.none _
   | refine LeO.ite ?_ ?_
   | refine LeO.bind ?_ (fun _ => ?_)
set_option maxHeartbeats 8000000 in
set_option maxRecDepth 100000 in
theorem laws_toVerdict.calls (k : Nat) (a0_0 : Int) (A0_1 : Option Addr) (c0_1 : Nat) (l0_1 : List Int) (A0_2 : Option Addr) (c0_2 : Nat) (l0_2 : List Int) (r1 : Int) (r2 : List Int) (r3 : List Int) (w : World) (hr0_1 : Kd.C (Kd.int .i64) w A0_1 l0_1.length l0_1) (hc0_1 : l0_1.length ≤ c0_1) (hr0_2 : Kd.C (Kd.int .i64) w A0_2 l0_2.length l0_2) (hc0_2 : l0_2.length ≤ c0_2) (h : laws_toVerdict.f k a0_0 l0_1 l0_2 = some (r1, r2, r3)) :
  Calls Try.prog 43 #[.agg #[.int .i64 a0_0, .slice A0_1 l0_1.length c0_1, .slice A0_2 l0_2.length c0_2]] w fun e w' => ∃ v1_ v2_ : Value, e = .returned (.agg #[.int .i64 r1, v1_, v2_]) ∧ Kd.R (Kd.int .i64) 3 w' w.heap.size (fun k_ => some k_ ≠ (v2_ : Value).ownBlock) v1_ r2 ∧ Kd.R (Kd.int .i64) 3 w' w.heap.size (fun k_ => some k_ ≠ (v1_ : Value).ownBlock) v2_ r3 ∧ Below w.heap.size w w' := by
 have hu60 := Try.underlying60
 have hu40 := Try.underlying40
 have HR0_1 := Aside0.mk hr0_1
 have HC0_1 := Aside0.mk hc0_1
 clear hr0_1 hc0_1
 have HR0_2 := Aside0.mk hr0_2
 have HC0_2 := Aside0.mk hc0_2
 clear hr0_2 hc0_2
 have HB := Aside0.mk (Below.refl w.heap.size w)
 have H : ((laws_toIntS.f k l0_1).bind fun t309 => ((laws_toIntS.f k l0_2).bind fun t312 => (some (a0_0, t309, t312)))) = some (r1, r2, r3) := h
 clear h
 replace H := Option.bind_eq_some_iff.mp H
 obtain ⟨t309, A20, H⟩ := H
 try dsimp only at H
 have A2 := Aside0.mk A20
 clear A20
 replace H := Option.bind_eq_some_iff.mp H
 obtain ⟨t312, A30, H⟩ := H
 try dsimp only at H
 have A3 := Aside0.mk A30
 clear A30
 simp only [Option.some.injEq, Prod.mk.injEq] at H
 obtain ⟨rfl, rfl, rfl⟩ := H
 go_enter Try.func43, Try.ntmps43
 go_wp2_with (first | ((with_reducible refine gate_dst (N := 1) rfl ?_); refine box_event ?hg (N := 1) ?hd (cs := #[.int .i64 a0_0, .slice A0_1 l0_1.length c0_1, .slice A0_2 l0_2.length c0_2]) (t := 60) ?hr ?_; (case hd => rfl); (case hg => rfl); (case hr => first | (go_simp; done) | (go_simp; rfl)); intro gb306 hg w4 hbox hb; have BK306 := Aside0.mk (hbox); have GW306 := Aside0.mk ((by rw [hg]; exact (bz_ HB.out) : w.heap.size ≤ gb306)); have GE306 := Aside0.mk ((by rw [hg]; exact (bz_ HB.out) : w.heap.size ≤ gb306)); replace HB := Aside0.mk (bs_ HB.out hb); clear hb hbox hg) | ((with_reducible refine gate_dst (N := 2) rfl ?_); refine box_event ?hg (N := 2) ?hd (cs := #[.int .i64 0, .slice none 0 0, .slice none 0 0]) (t := 40) ?hr ?_; (case hd => rfl); (case hg => rfl); (case hr => first | (go_simp; done) | (go_simp; rfl)); intro gb307 hg w5 hbox hb; have BK307 := Aside0.mk (hbox); have GW307 := Aside0.mk ((by rw [hg]; exact (bz_ HB.out) : w.heap.size ≤ gb307)); have GE307 := Aside0.mk ((by rw [hg]; exact (bz_ HB.out) : w.heap.size ≤ gb307)); replace HB := Aside0.mk (bs_ HB.out hb); have NB306_307 := Aside0.mk ((by rw [hg]; exact Nat.ne_of_lt (bl_ BK306.out) : gb306 ≠ gb307)); have NB307_306 := Aside0.mk ((by rw [hg]; exact Nat.ne_of_gt (bl_ BK306.out) : gb307 ≠ gb306)); replace BK306 := Aside0.mk (bk_ BK306.out hb); clear hb hbox hg) | ((with_reducible refine gate_dst (N := 3) rfl ?_); refine box_event ?hg (N := 3) ?hd (cs := #[.int .i64 0, .slice none 0 0, .slice none 0 0]) (t := 40) ?hr ?_; (case hd => rfl); (case hg => rfl); (case hr => first | (go_simp; done) | (go_simp; rfl)); intro gb308 hg w6 hbox hb; have BK308 := Aside0.mk (hbox); have GW308 := Aside0.mk ((by rw [hg]; exact (bz_ HB.out) : w.heap.size ≤ gb308)); have GE308 := Aside0.mk ((by rw [hg]; exact (bz_ HB.out) : w.heap.size ≤ gb308)); replace HB := Aside0.mk (bs_ HB.out hb); have NB306_308 := Aside0.mk ((by rw [hg]; exact Nat.ne_of_lt (bl_ BK306.out) : gb306 ≠ gb308)); have NB308_306 := Aside0.mk ((by rw [hg]; exact Nat.ne_of_gt (bl_ BK306.out) : gb308 ≠ gb306)); replace BK306 := Aside0.mk (bk_ BK306.out hb); have NB307_308 := Aside0.mk ((by rw [hg]; exact Nat.ne_of_lt (bl_ BK307.out) : gb307 ≠ gb308)); have NB308_307 := Aside0.mk ((by rw [hg]; exact Nat.ne_of_gt (bl_ BK307.out) : gb308 ≠ gb307)); replace BK307 := Aside0.mk (bk_ BK307.out hb); clear hb hbox hg; have hnb7 := NB306_307.out; have hnc7 := NB307_306.out; have hnb8 := NB306_308.out; have hnc8 := NB308_306.out; obtain ⟨hcz9_0, hcz9_1, hcz9_2, hfz9_0, hfz9_1, hfz9_2⟩ := cz3_ BK306.out; have hnb10 := NB308_307.out; have hnc10 := NB307_308.out; obtain ⟨hcz11_0, hcz11_1, hcz11_2, hfz11_0, hfz11_1, hfz11_2⟩ := cz3_ BK308.out) | ((with_reducible refine gate_callee (f := 77) rfl ?_); refine gm_ (some 9) Try.func77 #[.slice A0_1 l0_1.length c0_1] rfl ?_; (with_reducible refine (laws_toIntS.calls k _ _ l0_1 t309 _ ?side1 HC0_1.out A2.out).mono ?_); (case side1 => exact Kd.C_below HR0_1.out (by repeat (first | (with_reducible first | exact HB.out | apply below_alloc | apply pw_below_drewN | apply below_drew1 | refine below_set ?_ GE306.out | refine below_set ?_ GE307.out | refine below_set ?_ GE308.out) | exact HB.out))); rintro e w12 ⟨v310, rfl, ho0, hb⟩; refine ⟨_, rfl, ?_⟩; have HO311 := Aside0.mk (Kd.R_lower ho0 (bz_ HB.out)); replace BK306 := Aside0.mk (blk_below (bf_ BK306.out) hb); replace BK307 := Aside0.mk (blk_below (bf_ BK307.out) hb); replace BK308 := Aside0.mk (blk_below (g := gb308) (o := .cells #[.int .i64 a0_0, .slice none 0 0, .slice none 0 0] 40 (0, 0)) (by (with_reducible repeat (first | refine blk_drewN ?_ _ | refine blk_drew ?_ | refine blk_alloc ?_ _)); refine blk_put (cs := #[.int .i64 0, .slice none 0 0, .slice none 0 0]) ?_ 0 _ rfl; (with_reducible repeat (first | refine blk_drewN ?_ _ | refine blk_drew ?_ | refine blk_alloc ?_ _)); exact BK308.out) hb); replace HB := Aside0.mk (bs_ HB.out hb); (try clear hb); (try clear ho0); obtain ⟨Ao13, co13, eo13⟩ := Kd.R_slice HO311.out; subst eo13; obtain ⟨hcz14_0, hcz14_1, hcz14_2, hfz14_0, hfz14_1, hfz14_2⟩ := cz3_ BK308.out; obtain ⟨hcz15_0, hcz15_1, hcz15_2, hfz15_0, hfz15_1, hfz15_2⟩ := cz3_ BK306.out) | ((with_reducible refine gate_callee (f := 77) rfl ?_); refine gm_ (some 13) Try.func77 #[.slice A0_2 l0_2.length c0_2] rfl ?_; (with_reducible refine (laws_toIntS.calls k _ _ l0_2 t312 _ ?side1 HC0_2.out A3.out).mono ?_); (case side1 => exact Kd.C_below HR0_2.out (by repeat (first | (with_reducible first | exact HB.out | apply below_alloc | apply pw_below_drewN | apply below_drew1 | refine below_set ?_ GE306.out | refine below_set ?_ GE307.out | refine below_set ?_ GE308.out) | exact HB.out))); rintro e w16 ⟨v313, rfl, ho0, hb⟩; refine ⟨_, rfl, ?_⟩; have HO314 := Aside0.mk (Kd.R_lower (Kd.R_new' ho0 (Kd.R_lt (rm_ (Kd.R_types HO311.out BK308.out (by decide)) (fun _ h_ => h_.1)))) (bz_ HB.out)); replace HO311 := Aside0.mk (Kd.R_elder' (rm_ (Kd.R_types HO311.out BK308.out (by decide)) (fun _ h_ => h_.1)) (Kd.R_base ho0) hb); replace BK306 := Aside0.mk (blk_below (bf_ BK306.out) hb); replace BK307 := Aside0.mk (blk_below (bf_ BK307.out) hb); replace BK308 := Aside0.mk (blk_below (g := gb308) (o := .cells #[.int .i64 a0_0, .slice Ao13 t309.length co13, .slice none 0 0] 40 (0, 0)) (by (with_reducible repeat (first | refine blk_drewN ?_ _ | refine blk_drew ?_ | refine blk_alloc ?_ _)); refine blk_put (cs := #[.int .i64 a0_0, .slice none 0 0, .slice none 0 0]) ?_ 1 _ rfl; (with_reducible repeat (first | refine blk_drewN ?_ _ | refine blk_drew ?_ | refine blk_alloc ?_ _)); exact BK308.out) hb); replace HB := Aside0.mk (bs_ HB.out hb); (try clear hb); (try clear ho0); obtain ⟨Ao17, co17, eo17⟩ := Kd.R_slice HO314.out; subst eo17; obtain ⟨hcz18_0, hcz18_1, hcz18_2, hfz18_0, hfz18_1, hfz18_2⟩ := cz3_ BK308.out; obtain ⟨hcz19_0, hcz19_1, hcz19_2, hfz19_0, hfz19_1, hfz19_2⟩ := cz3_ BK307.out))
 refine bodyPost_ret (results_cell_row rfl _ _ gb307 40 #[.int .i64 a0_0, .slice Ao13 t309.length co13, .slice Ao17 t312.length co17] (0, 0) _ rfl (by (with_reducible repeat (first | refine blk_drewN ?_ _ | refine blk_drew ?_ | refine blk_alloc ?_ _)); refine blk_put (cs := #[.int .i64 a0_0, .slice Ao13 t309.length co13, .slice none 0 0]) ?_ 2 _ rfl; (with_reducible repeat (first | refine blk_drewN ?_ _ | refine blk_drew ?_ | refine blk_alloc ?_ _)); refine blk_put (cs := #[.int .i64 a0_0, .slice none 0 0, .slice none 0 0]) ?_ 1 _ rfl; (with_reducible repeat (first | refine blk_drewN ?_ _ | refine blk_drew ?_ | refine blk_alloc ?_ _)); refine blk_put (cs := #[.int .i64 0, .slice none 0 0, .slice none 0 0]) ?_ 0 _ rfl; (with_reducible repeat (first | refine blk_drewN ?_ _ | refine blk_drew ?_ | refine blk_alloc ?_ _)); refine blk_far ?_ NB307_308.out _; (with_reducible repeat (first | refine blk_drewN ?_ _ | refine blk_drew ?_ | refine blk_alloc ?_ _)); exact BK307.out) Try.underlying40 rfl (by kernel_rfl)) rfl ?_
 exact ⟨_, _, fin_, rm_ (Kd.R_types (Kd.R_types HO311.out BK308.out (by decide)) BK307.out (by decide)) (fun _ hk => hk.1.1.2), rm_ (Kd.R_types (Kd.R_types HO314.out BK308.out (by decide)) BK307.out (by decide)) (fun _ hk => hk.1.1.2), bb_ HB.out⟩

/-! ### impl_inside: function 94 -/
def impl_inside.f (a0 : Int) (a1 : Int) (a2 : Int) : Option (Bool) := if a1 ≤ a0 then (some (decide (a0 ≤ a2))) else (some false)
theorem impl_inside.e0 {P : Prop} (h : P := by
 go_enter Try.func94, Try.ntmps94
 go_wp2
 go_ret
 exact ⟨by first | rfl | (simp; done) | (simp [*]; done), by repeat (first | exact Drawn0.refl _ | apply Drawn0.step)⟩) : P := h
set_option maxHeartbeats 8000000 in
set_option maxRecDepth 100000 in
theorem impl_inside.calls (a0 : Int) (a1 : Int) (a2 : Int) (r : Bool) (w : World) (h : impl_inside.f a0 a1 a2 = some r) :
  Calls Try.prog 94 #[.int .i64 a0, .int .i64 a1, .int .i64 a2] w fun e w' => e = .returned (.bool r) ∧ Drawn0 w w' := by
 have H : (if a1 ≤ a0 then (some (decide (a0 ≤ a2))) else (some false)) = some r := h
 clear h
 by_cases c4 : a1 ≤ a0
 ·rw [if_pos c4] at H
  have c4b0 : decide (a1 ≤ a0) = true := decide_eq_true c4
  clear c4
  obtain rfl := Option.some.inj H
  exact impl_inside.e0
 ·rw [if_neg c4] at H
  have c4b0 : decide (a1 ≤ a0) = false := decide_eq_false c4
  clear c4
  obtain rfl := Option.some.inj H
  exact impl_inside.e0

end Go.Proofs.Ytimdefbpoddoaaa.PFnExactProvesVerdict
-- thin
