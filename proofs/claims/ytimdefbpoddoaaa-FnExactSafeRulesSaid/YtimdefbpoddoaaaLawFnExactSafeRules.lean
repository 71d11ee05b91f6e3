/- The row of the law FnExactSafeRules: for every input it returns true, and each argument reads behind the call as it read before. No condition. -/
import Derived.Test.YtimdefbpoddoaaaRows
import Derived.Test.YtimdefbpoddoaaaPFnExactSafeRulesx24
import Derived.Test.YtimdefbpoddoaaaPureFnExactSafeRules
import Derived.Test.YtimdefbpoddoaaaOp
import Derived.WalkKit
import Derived.ProofKit
import Derived.OpenShut
import Derived.ShutString
import Derived.ChangeOld
import Derived.Below
import Derived.SizedLaws
import Derived.Carry
import Derived.KernelRfl
namespace Go.Proofs.Ytimdefbpoddoaaa.fnExactSafeRules
open Go.ChangeShapes Go.WideShapes Go.ChangeAt Go.RowKit Go.Proofs.YtimdefbpoddoaaaW.PrintWords Go.Proofs.Ytimdefbpoddoaaa.Op Go.Proofs.Ytimdefbpoddoaaa.PFnExactSafeRules Go.Proofs.Ytimdefbpoddoaaa.Pure
set_option linter.unusedVariables false
theorem own : ownKnob Try.prog.godebug = none := by kernel_rfl
theorem laidOut : laidOutB Try.prog = true := by kernel_rfl
set_option maxRecDepth 100000 in
theorem lifted (os : Os) (started : os.Started) (H : Type) (enc : TypeId × Value → H) :
    ReturnsInHanded {} Try.checked os 7 .any (Rows.fnExactSafeRulesSpec.pre6 enc Try.prog Try.f7 Rows.fnExactSafeRulesRow.domain false) (Rows.fnExactSafeRulesSpec.post enc Try.prog Try.f7 false true false false) := by
  refine returnsInHanded_of_change_sized (C := Try.checked) own started (by kernel_rfl) Try.func7
    (ChangeSpec.witness6 (enc := enc) (C := Try.checked) false ⟨#[], #[.agg #[.int .i64 0, .int .i64 0]], []⟩ 8 (by kernel_rfl) (by kernel_rfl) (by kernel_rfl) (by kernel_rfl)) ?_
  intro W base args ds gs before hval0 hW hcnd hsz0 _
  have hval : ∀ (j : Nat) t v, Try.f7.params[j]? = some t → args[j]? = some v → Value.okWide Try.prog W .any base t v := hval0
  have hW' := hW
  obtain ⟨p, q, hA0, hV, rfl, hfz, hnd⟩ := hW
  have hA : DataW.TrodAll enc Try.prog W 0 (fun _ => true) true Try.f7.params.toList args.toList ds p := hA0
  rw [Try.params7] at hA hval
  obtain ⟨v0, vs0, d0, ds0, p0, q0, hargs, rfl, rfl, h0, r0⟩ := trodAll_cons hA
  obtain ⟨rfl, rfl, rfl⟩ := trodAll_nil r0
  obtain rfl : args = #[v0] := by cases args; simp_all
  obtain ⟨rfl, rfl⟩ := trodVars_none hV
  have k0_ := h0
  have lt0 : ∀ x ∈ p0, x.block < W.heap.size := by obtain ⟨m, hm⟩ := k0_; exact DataW.trod_lt m _ _ _ hm
  obtain ⟨⟨cs0⟩, rfl, _⟩ := okWide_struct Try.underlying32 (hval 0 32 v0 rfl rfl)
  obtain ⟨x0, hK0, g0⟩ := arg (Opens.struct Try.underlying32 (by kernel_rfl) (OpensF.cons (by kernel_rfl) (by kernel_rfl) (Opens.int Try.underlying3) (OpensF.one (by kernel_rfl) (by kernel_rfl) (Opens.int Try.underlying3)))) h0
  obtain ⟨y0, hy0⟩ : ∃ y, y = cs0 := ⟨_, rfl⟩
  change Kd.K (Kd.pair (Kd.int .i64) (Kd.int .i64)) W x0 cs0 at hK0
  obtain ⟨_, _, rfl, rfl, rfl⟩ := hK0
  clear hA0 hval0 hsz0
  obtain ⟨k, h⟩ := Pure.FnExactSafeRules (x0.1) (x0.2) (g0.1) (g0.2)
  refine (laws_FnExactSafeRules.calls k (x0.1) (x0.2) true W  h).mono fun e W' ⟨he, bel⟩ => ?_
  subst he
  exact ⟨_, rfl, _, _, _, [], _, [], hW', trodAll_mk1 (shut_bool Try.underlying4 _), (trodAll_cons_mk (Below.trod laidOut (by kernel_rfl) (of_decide_eq_true (by kernel_rfl)) k0_ bel lt0) trodAll_mk0), rfl, bel.frame _, fun h => by cases h⟩
theorem over : Rows.fnExactSafeRulesRow.holds Try.pinned (OpenSpec.ofChange Rows.fnExactSafeRulesSpec) :=
  OpenClaim.holds_of_wide 7 Try.f7 rfl rfl rfl rfl rfl rfl rfl ⟨rfl, rfl, rfl, rfl, rfl⟩ rfl rfl rfl rfl rfl (by kernel_rfl) Try.func7 (by kernel_rfl)
    (of_decide_eq_true (by kernel_rfl)) (by unfold Func.isWrapper; first | (rw [if_pos (by decide +kernel)]; kernel_rfl) | (rw [if_neg (by decide +kernel)]; exact ⟨rfl, rfl⟩))
    (fun os started H enc _ => lifted os started H enc)
theorem proved : Rows.FnExactSafeRulesSaid := over
end Go.Proofs.Ytimdefbpoddoaaa.fnExactSafeRules
namespace Go.Proofs.Ytimdefbpoddoaaa
/-- The row, under a short name, for the claim. -/
theorem fnExactSafeRules_holds : Rows.FnExactSafeRulesSaid := fnExactSafeRules.proved
#print axioms fnExactSafeRules_holds
end Go.Proofs.Ytimdefbpoddoaaa
