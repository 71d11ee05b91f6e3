/- The row of the law FnExactSplitClasses: for every input it returns true, and each argument reads behind the call as it read before. No condition. -/
import Derived.Test.YtlfmckdhmklgpaaRows
import Derived.Test.YtlfmckdhmklgpaaPFnExactSplitClassesx5
import Derived.Test.YtlfmckdhmklgpaaPureFnExactSplitClasses
import Derived.Test.YtlfmckdhmklgpaaOp
import Derived.WalkKit
import Derived.ProofKit
import Derived.OpenShut
import Derived.ShutString
import Derived.ChangeOld
import Derived.Below
import Derived.SizedLaws
import Derived.Carry
import Derived.KernelRfl
namespace Go.Proofs.Ytlfmckdhmklgpaa.fnExactSplitClasses
open Go.ChangeShapes Go.WideShapes Go.ChangeAt Go.RowKit Go.Proofs.YtlfmckdhmklgpaaW.PrintWords Go.Proofs.Ytlfmckdhmklgpaa.Op Go.Proofs.Ytlfmckdhmklgpaa.PFnExactSplitClasses Go.Proofs.Ytlfmckdhmklgpaa.Pure
set_option linter.unusedVariables false
theorem own : ownKnob Try.prog.godebug = none := by kernel_rfl
theorem laidOut : laidOutB Try.prog = true := by kernel_rfl
set_option maxRecDepth 100000 in
theorem lifted (os : Os) (started : os.Started) (H : Type) (enc : TypeId × Value → H) :
    ReturnsInHanded {} Try.checked os 13 .any (Rows.fnExactSplitClassesSpec.pre6 enc Try.prog Try.f13 Rows.fnExactSplitClassesRow.domain false) (Rows.fnExactSplitClassesSpec.post enc Try.prog Try.f13 false true false false) := by
  refine returnsInHanded_of_change_sized (C := Try.checked) own started (by kernel_rfl) Try.func13
    (ChangeSpec.witness6 (enc := enc) (C := Try.checked) false ⟨#[], #[.agg #[.int .i64 0, .int .i64 0]], []⟩ 8 (by kernel_rfl) (by kernel_rfl) (by kernel_rfl) (by kernel_rfl)) ?_
  intro W base args ds gs before hval0 hW hcnd hsz0 _
  have hval : ∀ (j : Nat) t v, Try.f13.params[j]? = some t → args[j]? = some v → Value.okWide Try.prog W .any base t v := hval0
  have hW' := hW
  obtain ⟨p, q, hA0, hV, rfl, hfz, hnd⟩ := hW
  have hA : DataW.TrodAll enc Try.prog W 0 (fun _ => true) true Try.f13.params.toList args.toList ds p := hA0
  rw [Try.params13] at hA hval
  obtain ⟨v0, vs0, d0, ds0, p0, q0, hargs, rfl, rfl, h0, r0⟩ := trodAll_cons hA
  obtain ⟨rfl, rfl, rfl⟩ := trodAll_nil r0
  obtain rfl : args = #[v0] := by cases args; simp_all
  obtain ⟨rfl, rfl⟩ := trodVars_none hV
  have k0_ := h0
  have lt0 : ∀ x ∈ p0, x.block < W.heap.size := by obtain ⟨m, hm⟩ := k0_; exact DataW.trod_lt m _ _ _ hm
  obtain ⟨⟨cs0⟩, rfl, _⟩ := okWide_struct Try.underlying75 (hval 0 75 v0 rfl rfl)
  obtain ⟨x0, hK0, g0⟩ := arg (Opens.struct Try.underlying75 (by kernel_rfl) (OpensF.cons (by kernel_rfl) (by kernel_rfl) (Opens.int Try.underlying3) (OpensF.one (by kernel_rfl) (by kernel_rfl) (Opens.int Try.underlying3)))) h0
  obtain ⟨y0, hy0⟩ : ∃ y, y = cs0 := ⟨_, rfl⟩
  change Kd.K (Kd.pair (Kd.int .i64) (Kd.int .i64)) W x0 cs0 at hK0
  obtain ⟨_, _, rfl, rfl, rfl⟩ := hK0
  clear hA0 hval0 hsz0
  obtain ⟨k, h⟩ := Pure.FnExactSplitClasses (x0.1) (x0.2) (g0.1) (g0.2)
  refine (laws_FnExactSplitClasses.calls k (x0.1) (x0.2) true W  h).mono fun e W' ⟨he, bel⟩ => ?_
  subst he
  exact ⟨_, rfl, _, _, _, [], _, [], hW', trodAll_mk1 (shut_bool Try.underlying4 _), (trodAll_cons_mk (Below.trod laidOut (by kernel_rfl) (of_decide_eq_true (by kernel_rfl)) k0_ bel lt0) trodAll_mk0), rfl, bel.frame _, fun h => by cases h⟩
theorem over : Rows.fnExactSplitClassesRow.holds Try.pinned (OpenSpec.ofChange Rows.fnExactSplitClassesSpec) :=
  OpenClaim.holds_of_wide 13 Try.f13 rfl rfl rfl rfl rfl rfl rfl ⟨rfl, rfl, rfl, rfl, rfl⟩ rfl rfl rfl rfl rfl (by kernel_rfl) Try.func13 (by kernel_rfl)
    (of_decide_eq_true (by kernel_rfl)) (by unfold Func.isWrapper; first | (rw [if_pos (by decide +kernel)]; kernel_rfl) | (rw [if_neg (by decide +kernel)]; exact ⟨rfl, rfl⟩))
    (fun os started H enc _ => lifted os started H enc)
theorem proved : Rows.FnExactSplitClassesSaid := over
end Go.Proofs.Ytlfmckdhmklgpaa.fnExactSplitClasses
namespace Go.Proofs.Ytlfmckdhmklgpaa
/-- The row, under a short name, for the claim. -/
theorem fnExactSplitClasses_holds : Rows.FnExactSplitClassesSaid := fnExactSplitClasses.proved
#print axioms fnExactSplitClasses_holds
end Go.Proofs.Ytlfmckdhmklgpaa
