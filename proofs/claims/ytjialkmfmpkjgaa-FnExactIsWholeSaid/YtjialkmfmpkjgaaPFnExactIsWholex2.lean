/- Each function that the law comes to, as a plain function, with the proof that the call in the model gives what that function says (written by a program of this session out of the translation). No condition. -/
import Derived.Test.YtjialkmfmpkjgaaPFnExactIsWholex0
import Derived.Test.YtjialkmfmpkjgaaPFnExactIsWholex1
namespace Go.Proofs.Ytjialkmfmpkjgaa.PFnExactIsWhole
open Go.RowKit Go.Proofs.YtjialkmfmpkjgaaW.PrintWords Go.Proofs.YtjialkmfmpkjgaaW.PrintLast Go.Proofs.YtjialkmfmpkjgaaW.PrintMore
attribute [local go_sem] max2_int min2_int max_two min_two max_three min_three max_four min_four   -- for this text's walks alone
set_option linter.unusedVariables false
set_option linter.unusedSimpArgs false

/-! ### laws_FnExactIsWhole: function 3 -/
def laws_FnExactIsWhole.f (k : Nat) (l0 : List (S67)) : Option (Bool) := (laws_szFlitS.f l0 1048576).bind fun t119 => (if t119 < 0 then (some true) else ((laws_toFlitS.f k l0).bind fun t120 => ((spec_IsWhole.f k t120).bind fun t123 => ((laws_toFlitS.f k l0).bind fun t124 => ((impl_IsWhole.f k t124).bind fun t127 => (if (t127 != t123) = true then (none) else ((laws_toFlitS.f k l0).bind fun t128 => ((laws_eqFlitS.f k t124 t128).bind fun t131 => (if t131 = true then (some true) else (none))))))))))
theorem laws_FnExactIsWhole.mono : ∀ a0 k, LeO (laws_FnExactIsWhole.f k a0) (laws_FnExactIsWhole.f (k + 1) a0) := by
 intro a0 k
 unfold laws_FnExactIsWhole.f
 repeat' first
   | (with_reducible exact impl_IsWhole.mono _ _)
   | (with_reducible exact laws_eqFlitS.mono _ _ _)
   | (with_reducible exact laws_toFlitS.mono _ _)
   | (with_reducible exact spec_IsWhole.mono _ _)
   | (with_reducible exact LeO.refl _)
   | (with_reducible exact LeO.none _)
   | (with_reducible refine LeO.ite ?_ ?_)
   | (with_reducible refine LeO.bind ?_ (fun _ => ?_))
   | exact impl_IsWhole.mono _ _
   | exact laws_eqFlitS.mono _ _ _
   | exact laws_toFlitS.mono _ _
   | exact spec_IsWhole.mono _ _
   | exact LeO.none _
   | refine LeO.ite ?_ ?_
   | refine LeO.bind ?_ (fun _ => ?_)
theorem laws_FnExactIsWhole.e0 {P : Prop} (h : P := by
 go_enter Try.func3, Try.ntmps3
 go_wp2_with (first | ((with_reducible refine gate_callee (f := 8) rfl ?_); refine gm_ (some 9) Try.func8 #[.slice A0 l0.length c0, .int .i64 1048576] rfl ?_; (with_reducible refine (laws_szFlitS.calls _ _ l0 1048576 t119 _ ?side1 HC0.out A2.out).mono ?_); (case side1 => repeat (first | exact HR0.out | (with_reducible refine Kd.C_alloc ?_ _) | (with_reducible refine Kd.C_drewN ?_ _) | (with_reducible refine Kd.C_drew ?_))); rintro e w' ⟨rfl, ⟨nd, rfl⟩⟩; refine ⟨_, rfl, ?_⟩) | ((with_reducible refine gate_callee (f := 10) rfl ?_); refine gm_ (some 13) Try.func10 #[.slice A0 l0.length c0] rfl ?_; (with_reducible refine (laws_toFlitS.calls k _ _ l0 t120 _ ?side1 HC0.out A4.out).mono ?_); (case side1 => repeat (first | exact HR0.out | (with_reducible refine Kd.C_alloc ?_ _) | (with_reducible refine Kd.C_drewN ?_ _) | (with_reducible refine Kd.C_drew ?_))); rintro e w_0 ⟨v121, rfl, ho0, hb⟩; refine ⟨_, rfl, ?_⟩; have HO122 := Aside0.mk (Kd.R_lower ho0 (bz_ HB.out)); replace HB := Aside0.mk (bs_ HB.out hb); (try clear hb); (try clear ho0); obtain ⟨Ao13, co13, eo13⟩ := Kd.R_slice HO122.out; subst eo13) | ((with_reducible refine gate_callee (f := 9) rfl ?_); refine gm_ (some 14) Try.func9 #[.slice Ao13 t120.length co13] rfl ?_; (with_reducible refine (spec_IsWhole.calls k _ _ t120 t123 _ ?side1 ?side2 A5.out).mono ?_); (case side1 => repeat (first | exact (Kd.R_reads' HO122.out).2.2 | (with_reducible refine Kd.C_alloc ?_ _) | (with_reducible refine Kd.C_drewN ?_ _) | (with_reducible refine Kd.C_drew ?_))); (case side2 => exact (Kd.R_reads' HO122.out).2.1); rintro e w_0 ⟨rfl, hb⟩; refine ⟨_, rfl, ?_⟩; replace HO122 := Aside0.mk (Kd.R_below (ra_ HO122.out) hb); replace HB := Aside0.mk (bs_ HB.out hb); (try clear hb)) | ((with_reducible refine gate_callee (f := 10) rfl ?_); refine gm_ (some 16) Try.func10 #[.slice A0 l0.length c0] rfl ?_; (with_reducible refine (laws_toFlitS.calls k _ _ l0 t124 _ ?side1 HC0.out A6.out).mono ?_); (case side1 => exact cb_ HR0.out HB.out); rintro e w_0 ⟨v125, rfl, ho0, hb⟩; refine ⟨_, rfl, ?_⟩; have HO126 := Aside0.mk (Kd.R_lower (Kd.R_new' ho0 (rl_ HO122.out)) (bz_ HB.out)); replace HO122 := Aside0.mk (Kd.R_elder' (ra_ HO122.out) (Kd.R_base ho0) hb); replace HB := Aside0.mk (bs_ HB.out hb); (try clear hb); (try clear ho0); obtain ⟨Ao16, co16, eo16⟩ := Kd.R_slice HO126.out; subst eo16) | ((with_reducible refine gate_callee (f := 11) rfl ?_); refine gm_ (some 18) Try.func11 #[.slice Ao16 t124.length co16] rfl ?_; (with_reducible refine (impl_IsWhole.calls k _ _ t124 t127 _ ?side1 ?side2 A7.out).mono ?_); (case side1 => repeat (first | exact (Kd.R_reads' HO126.out).2.2 | (with_reducible refine Kd.C_alloc ?_ _) | (with_reducible refine Kd.C_drewN ?_ _) | (with_reducible refine Kd.C_drew ?_))); (case side2 => exact (Kd.R_reads' HO126.out).2.1); rintro e w_0 ⟨rfl, hb⟩; refine ⟨_, rfl, ?_⟩; replace HO122 := Aside0.mk (Kd.R_below (ra_ HO122.out) hb); replace HO126 := Aside0.mk (Kd.R_below (ra_ HO126.out) hb); replace HB := Aside0.mk (bs_ HB.out hb); (try clear hb)) | ((with_reducible refine gate_callee (f := 10) rfl ?_); refine gm_ (some 24) Try.func10 #[.slice A0 l0.length c0] rfl ?_; (with_reducible refine (laws_toFlitS.calls k _ _ l0 t128 _ ?side1 HC0.out A9.out).mono ?_); (case side1 => exact cb_ HR0.out HB.out); rintro e w_0 ⟨v129, rfl, ho0, hb⟩; refine ⟨_, rfl, ?_⟩; have HO130 := Aside0.mk (Kd.R_lower (Kd.R_new' (Kd.R_new' ho0 (rl_ HO122.out)) (rl_ HO126.out)) (bz_ HB.out)); replace HO122 := Aside0.mk (Kd.R_elder' (ra_ HO122.out) (Kd.R_base ho0) hb); replace HO126 := Aside0.mk (Kd.R_elder' (ra_ HO126.out) (Kd.R_base ho0) hb); replace HB := Aside0.mk (bs_ HB.out hb); (try clear hb); (try clear ho0); obtain ⟨Ao19, co19, eo19⟩ := Kd.R_slice HO130.out; subst eo19) | ((with_reducible refine gate_callee (f := 12) rfl ?_); refine gm_ (some 25) Try.func12 #[.slice Ao16 t124.length co16, .slice Ao19 t128.length co19] rfl ?_; (with_reducible refine (laws_eqFlitS.calls k _ _ t124 _ _ t128 _ _ ?side1 ?side2 ?side3 ?side4 A10.out).mono ?_); (case side1 => repeat (first | exact (Kd.R_reads' HO126.out).2.2 | (with_reducible refine Kd.C_alloc ?_ _) | (with_reducible refine Kd.C_drewN ?_ _) | (with_reducible refine Kd.C_drew ?_))); (case side2 => exact (Kd.R_reads' HO126.out).2.1); (case side3 => repeat (first | exact (Kd.R_reads' HO130.out).2.2 | (with_reducible refine Kd.C_alloc ?_ _) | (with_reducible refine Kd.C_drewN ?_ _) | (with_reducible refine Kd.C_drew ?_))); (case side4 => exact (Kd.R_reads' HO130.out).2.1); rintro e w_0 ⟨rfl, hb⟩; refine ⟨_, rfl, ?_⟩; replace HO122 := Aside0.mk (Kd.R_below (ra_ HO122.out) hb); replace HO126 := Aside0.mk (Kd.R_below (ra_ HO126.out) hb); replace HO130 := Aside0.mk (Kd.R_below (ra_ HO130.out) hb); replace HB := Aside0.mk (bs_ HB.out hb); (try clear hb)))
 go_ret
 exact ⟨fin_, bb_ HB.out⟩) : P := h
set_option maxHeartbeats 8000000 in
set_option maxRecDepth 100000 in
theorem laws_FnExactIsWhole.calls (k : Nat) (A0 : Option Addr) (c0 : Nat) (l0 : List (S67)) (r : Bool) (w : World) (hr0 : Kd.C k67 w A0 l0.length l0) (hc0 : l0.length ≤ c0) (h : laws_FnExactIsWhole.f k l0 = some r) :
  Calls Try.prog 3 #[.slice A0 l0.length c0] w fun e w' => e = .returned (.bool r) ∧ Below w.heap.size w w' := by
 have HR0 := Aside0.mk hr0
 have HC0 := Aside0.mk hc0
 clear hr0 hc0
 have HB := Aside0.mk (Below.refl w.heap.size w)
 have H : ((laws_szFlitS.f l0 1048576).bind fun t119 => (if t119 < 0 then (some true) else ((laws_toFlitS.f k l0).bind fun t120 => ((spec_IsWhole.f k t120).bind fun t123 => ((laws_toFlitS.f k l0).bind fun t124 => ((impl_IsWhole.f k t124).bind fun t127 => (if (t127 != t123) = true then (none) else ((laws_toFlitS.f k l0).bind fun t128 => ((laws_eqFlitS.f k t124 t128).bind fun t131 => (if t131 = true then (some true) else (none))))))))))) = some r := h
 clear h
 replace H := Option.bind_eq_some_iff.mp H
 obtain ⟨t119, A20, H⟩ := H
 try dsimp only at H
 have A2 := Aside0.mk A20
 clear A20
 by_cases c3 : t119 < 0
 ·rw [if_pos c3] at H
  have c3b0 : decide (t119 < 0) = true := decide_eq_true c3
  clear c3
  obtain rfl := Option.some.inj H
  exact laws_FnExactIsWhole.e0
 ·rw [if_neg c3] at H
  have c3b0 : decide (t119 < 0) = false := decide_eq_false c3
  clear c3
  replace H := Option.bind_eq_some_iff.mp H
  obtain ⟨t120, A40, H⟩ := H
  try dsimp only at H
  have A4 := Aside0.mk A40
  clear A40
  replace H := Option.bind_eq_some_iff.mp H
  obtain ⟨t123, A50, H⟩ := H
  try dsimp only at H
  have A5 := Aside0.mk A50
  clear A50
  replace H := Option.bind_eq_some_iff.mp H
  obtain ⟨t124, A60, H⟩ := H
  try dsimp only at H
  have A6 := Aside0.mk A60
  clear A60
  replace H := Option.bind_eq_some_iff.mp H
  obtain ⟨t127, A70, H⟩ := H
  try dsimp only at H
  have A7 := Aside0.mk A70
  clear A70
  by_cases c8 : (t127 != t123) = true
  ·rw [if_pos c8] at H
   exact absurd H (by simp)
  ·rw [if_neg c8] at H
   have c8b0 : (t127 != t123) = false := by simpa using c8
   (try (have c8b1 : decide (t127 = t123) = true := by simpa using c8))
   (try (have c8b2 : (t127 == t123) = true := by simpa using c8))
   clear c8
   replace H := Option.bind_eq_some_iff.mp H
   obtain ⟨t128, A90, H⟩ := H
   try dsimp only at H
   have A9 := Aside0.mk A90
   clear A90
   replace H := Option.bind_eq_some_iff.mp H
   obtain ⟨t131, A100, H⟩ := H
   try dsimp only at H
   have A10 := Aside0.mk A100
   clear A100
   by_cases c11 : t131 = true
   ·subst c11
    rw [if_pos rfl] at H
    obtain rfl := Option.some.inj H
    exact laws_FnExactIsWhole.e0
   ·replace c11 := Bool.eq_false_iff.mpr c11
    subst c11
    rw [if_neg (show ¬ (false = true) by decide)] at H
    exact absurd H (by simp)

end Go.Proofs.Ytjialkmfmpkjgaa.PFnExactIsWhole
-- thin
