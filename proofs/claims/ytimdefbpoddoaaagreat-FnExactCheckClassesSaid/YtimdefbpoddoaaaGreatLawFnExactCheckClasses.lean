/- The row of the law FnExactCheckClasses: for every input it returns true, and each argument reads behind the call as it read before. No condition. -/
import Derived.Test.YtimdefbpoddoaaaGreatRows
import Derived.Test.YtimdefbpoddoaaaGreatPFnExactCheckClassesx24
import Derived.Test.YtimdefbpoddoaaaGreatPureFnExactCheckClasses
import Derived.Test.YtimdefbpoddoaaaGreatOp
import Derived.WalkKit
import Derived.ProofKit
import Derived.OpenShut
import Derived.ShutString
import Derived.ChangeOld
import Derived.Below
import Derived.SizedLaws
import Derived.Carry
import Derived.KernelRfl
namespace Go.Proofs.YtimdefbpoddoaaaGreat.fnExactCheckClasses
open Go.ChangeShapes Go.WideShapes Go.ChangeAt Go.RowKit Go.Proofs.YtimdefbpoddoaaaGreatW.PrintWords Go.Proofs.YtimdefbpoddoaaaGreat.Op Go.Proofs.YtimdefbpoddoaaaGreat.PFnExactCheckClasses Go.Proofs.YtimdefbpoddoaaaGreat.Pure
set_option linter.unusedVariables false
theorem own : ownKnob Tryz.prog.godebug = none := by kernel_rfl
theorem laidOut : laidOutB Tryz.prog = true := by kernel_rfl
set_option maxRecDepth 100000 in
theorem lifted (os : Os) (started : os.Started) (H : Type) (enc : TypeId × Value → H) :
    ReturnsInHanded {} Tryz.checked os 3 .any (Rows.fnExactCheckClassesSpec.pre6 enc Tryz.prog Tryz.f3 Rows.fnExactCheckClassesRow.domain false) (Rows.fnExactCheckClassesSpec.post enc Tryz.prog Tryz.f3 false true false false) := by
  refine returnsInHanded_of_change_sized (C := Tryz.checked) own started (by kernel_rfl) Tryz.func3
    (ChangeSpec.witness6 (enc := enc) (C := Tryz.checked) false ⟨#[], #[.agg #[.int .i64 0, .int .i64 0, .slice none 0 0], .agg #[.slice none 0 0, .slice none 0 0]], []⟩ 8 (by kernel_rfl) (by kernel_rfl) (by kernel_rfl) (by kernel_rfl)) ?_
  intro W base args ds gs before hval0 hW hcnd hsz0 _
  have hval : ∀ (j : Nat) t v, Tryz.f3.params[j]? = some t → args[j]? = some v → Value.okWide Tryz.prog W .any base t v := hval0
  have hW' := hW
  obtain ⟨p, q, hA0, hV, rfl, hfz, hnd⟩ := hW
  have hA : DataW.TrodAll enc Tryz.prog W 0 (fun _ => true) true Tryz.f3.params.toList args.toList ds p := hA0
  rw [Tryz.params3] at hA hval
  obtain ⟨v0, vs0, d0, ds0, p0, q0, hargs, rfl, rfl, h0, r0⟩ := trodAll_cons hA
  obtain ⟨v1, vs1, d1, ds1, p1, q1, rfl, rfl, rfl, h1, r1⟩ := trodAll_cons r0
  obtain ⟨rfl, rfl, rfl⟩ := trodAll_nil r1
  obtain rfl : args = #[v0, v1] := by cases args; simp_all
  obtain ⟨rfl, rfl⟩ := trodVars_none hV
  have k0_ := h0
  have lt0 : ∀ x ∈ p0, x.block < W.heap.size := by obtain ⟨m, hm⟩ := k0_; exact DataW.trod_lt m _ _ _ hm
  obtain ⟨⟨cs0⟩, rfl, _⟩ := okWide_struct Tryz.underlying26 (hval 0 26 v0 rfl rfl)
  obtain ⟨x0, hK0, g0⟩ := arg (Opens.struct Tryz.underlying26 (by kernel_rfl) (OpensF.cons (by kernel_rfl) (by kernel_rfl) (Opens.struct Tryz.underlying23 (by kernel_rfl) (OpensF.cons (by kernel_rfl) (by kernel_rfl) (Opens.int Tryz.underlying3) (OpensF.one (by kernel_rfl) (by kernel_rfl) (Opens.int Tryz.underlying3)))) (OpensF.one (by kernel_rfl) (by kernel_rfl) (Opens.slice Tryz.underlying24 (by kernel_rfl) (Opens.int Tryz.underlying3))))) h0
  obtain ⟨y0, hy0⟩ : ∃ y, y = cs0 := ⟨_, rfl⟩
  change Kd.K (Kd.pair (Kd.pair (Kd.int .i64) (Kd.int .i64)) (Kd.slice 3 (Kd.int .i64))) W x0 cs0 at hK0
  obtain ⟨_, _, rfl, ⟨_, _, rfl, rfl, rfl⟩, ⟨A103, c103, rfl, hl103, hr103⟩⟩ := hK0
  have k1_ := h1
  have lt1 : ∀ x ∈ p1, x.block < W.heap.size := by obtain ⟨m, hm⟩ := k1_; exact DataW.trod_lt m _ _ _ hm
  obtain ⟨⟨cs1⟩, rfl, _⟩ := okWide_struct Tryz.underlying30 (hval 1 30 v1 rfl rfl)
  obtain ⟨x1, hK1, g1⟩ := arg (Opens.struct Tryz.underlying30 (by kernel_rfl) (OpensF.cons (by kernel_rfl) (by kernel_rfl) (Opens.struct Tryz.underlying28 (by kernel_rfl) (OpensF.one (by kernel_rfl) (by kernel_rfl) (Opens.slice Tryz.underlying24 (by kernel_rfl) (Opens.int Tryz.underlying3)))) (OpensF.one (by kernel_rfl) (by kernel_rfl) (Opens.struct Tryz.underlying28 (by kernel_rfl) (OpensF.one (by kernel_rfl) (by kernel_rfl) (Opens.slice Tryz.underlying24 (by kernel_rfl) (Opens.int Tryz.underlying3))))))) h1
  obtain ⟨y1, hy1⟩ : ∃ y, y = cs1 := ⟨_, rfl⟩
  change Kd.K (Kd.pair (Kd.slice 3 (Kd.int .i64)) (Kd.slice 3 (Kd.int .i64))) W x1 cs1 at hK1
  obtain ⟨_, _, rfl, ⟨A201, c201, rfl, hl201, hr201⟩, ⟨A202, c202, rfl, hl202, hr202⟩⟩ := hK1
  clear hA0 hval0 hsz0
  obtain ⟨k, h⟩ := Pure.FnExactCheckClasses (x0.1.1) (x0.1.2) (x0.2) (x1.1) (x1.2) (g0.1.1) (g0.1.2) (g0.2.1) (g1.1.1) (g1.2.1)
  refine (laws_FnExactCheckClasses.calls k (x0.1.1) (x0.1.2) _ _ (x0.2) _ _ (x1.1) _ _ (x1.2) true W hr103 hl103 hr201 hl201 hr202 hl202 h).mono fun e W' ⟨he, bel⟩ => ?_
  subst he
  exact ⟨_, rfl, _, _, _, [], _, [], hW', trodAll_mk1 (shut_bool Tryz.underlying4 _), (trodAll_cons_mk (Below.trod laidOut (by kernel_rfl) (of_decide_eq_true (by kernel_rfl)) k0_ bel lt0) (trodAll_cons_mk (Below.trod laidOut (by kernel_rfl) (of_decide_eq_true (by kernel_rfl)) k1_ bel lt1) trodAll_mk0)), rfl, bel.frame _, fun h => by cases h⟩
theorem over : Rows.fnExactCheckClassesRow.holds Tryz.pinned (OpenSpec.ofChange Rows.fnExactCheckClassesSpec) :=
  OpenClaim.holds_of_wide 3 Tryz.f3 rfl rfl rfl rfl rfl rfl rfl ⟨rfl, rfl, rfl, rfl, rfl⟩ rfl rfl rfl rfl rfl (by kernel_rfl) Tryz.func3 (by kernel_rfl)
    (of_decide_eq_true (by kernel_rfl)) (by unfold Func.isWrapper; first | (rw [if_pos (by decide +kernel)]; kernel_rfl) | (rw [if_neg (by decide +kernel)]; exact ⟨rfl, rfl⟩))
    (fun os started H enc _ => lifted os started H enc)
theorem proved : Rows.FnExactCheckClassesSaid := over
end Go.Proofs.YtimdefbpoddoaaaGreat.fnExactCheckClasses
namespace Go.Proofs.YtimdefbpoddoaaaGreat
/-- The row, under a short name, for the claim. -/
theorem fnExactCheckClasses_holds : Rows.FnExactCheckClassesSaid := fnExactCheckClasses.proved
#print axioms fnExactCheckClasses_holds
end Go.Proofs.YtimdefbpoddoaaaGreat
