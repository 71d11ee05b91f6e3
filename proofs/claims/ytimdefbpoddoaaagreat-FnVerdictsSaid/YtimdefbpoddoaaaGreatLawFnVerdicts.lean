/- The row of the law FnVerdicts: for every input it returns true, and each argument reads behind the call as it read before. No condition. -/
import Derived.Test.YtimdefbpoddoaaaGreatRows
import Derived.Test.YtimdefbpoddoaaaGreatPFnVerdictsx23
import Derived.Test.YtimdefbpoddoaaaGreatPureFnVerdicts
import Derived.Test.YtimdefbpoddoaaaGreatOp
import Derived.WalkKit
import Derived.ProofKit
import Derived.OpenShut
import Derived.ShutString
import Derived.ChangeOld
import Derived.Below
import Derived.SizedLaws
import Derived.Carry
import Derived.KernelRfl
namespace Go.Proofs.YtimdefbpoddoaaaGreat.fnVerdicts
open Go.ChangeShapes Go.WideShapes Go.ChangeAt Go.RowKit Go.Proofs.YtimdefbpoddoaaaGreatW.PrintWords Go.Proofs.YtimdefbpoddoaaaGreat.Op Go.Proofs.YtimdefbpoddoaaaGreat.PFnVerdicts Go.Proofs.YtimdefbpoddoaaaGreat.Pure
set_option linter.unusedVariables false
theorem own : ownKnob Tryz.prog.godebug = none := by kernel_rfl
theorem laidOut : laidOutB Tryz.prog = true := by kernel_rfl
set_option maxRecDepth 100000 in
theorem lifted (os : Os) (started : os.Started) (H : Type) (enc : TypeId × Value → H) :
    ReturnsInHanded {} Tryz.checked os 4 .any (Rows.fnVerdictsSpec.pre6 enc Tryz.prog Tryz.f4 Rows.fnVerdictsRow.domain false) (Rows.fnVerdictsSpec.post enc Tryz.prog Tryz.f4 false true false false) := by
  refine returnsInHanded_of_change_sized (C := Tryz.checked) own started (by kernel_rfl) Tryz.func4
    (ChangeSpec.witness6 (enc := enc) (C := Tryz.checked) false ⟨#[], #[.slice none 0 0], []⟩ 8 (by kernel_rfl) (by kernel_rfl) (by kernel_rfl) (by kernel_rfl)) ?_
  intro W base args ds gs before hval0 hW hcnd hsz0 _
  have hval : ∀ (j : Nat) t v, Tryz.f4.params[j]? = some t → args[j]? = some v → Value.okWide Tryz.prog W .any base t v := hval0
  have hW' := hW
  obtain ⟨p, q, hA0, hV, rfl, hfz, hnd⟩ := hW
  have hA : DataW.TrodAll enc Tryz.prog W 0 (fun _ => true) true Tryz.f4.params.toList args.toList ds p := hA0
  rw [Tryz.params4] at hA hval
  obtain ⟨v0, vs0, d0, ds0, p0, q0, hargs, rfl, rfl, h0, r0⟩ := trodAll_cons hA
  obtain ⟨rfl, rfl, rfl⟩ := trodAll_nil r0
  obtain rfl : args = #[v0] := by cases args; simp_all
  obtain ⟨rfl, rfl⟩ := trodVars_none hV
  have k0_ := h0
  have lt0 : ∀ x ∈ p0, x.block < W.heap.size := by obtain ⟨m, hm⟩ := k0_; exact DataW.trod_lt m _ _ _ hm
  obtain ⟨aa0, len0, cap0, rfl⟩ := okWide_slice Tryz.underlying51 (hval 0 51 v0 rfl rfl)
  obtain ⟨l0, ⟨A0, c0, e0, hl0, hr0⟩, g0⟩ := arg (Opens.slice Tryz.underlying51 (by kernel_rfl) (Opens.int Tryz.underlying5)) h0
  obtain ⟨rfl, rfl, rfl⟩ : aa0 = A0 ∧ len0 = l0.length ∧ cap0 = c0 := by
    simp [Value.cells] at e0
    exact e0
  clear hA0 hval0 hsz0
  obtain ⟨k, h⟩ := Pure.FnVerdicts l0 (g0.1)
  refine (laws_FnVerdicts.calls k _ _ l0 true W hr0 hl0 h).mono fun e W' ⟨he, bel⟩ => ?_
  subst he
  exact ⟨_, rfl, _, _, _, [], _, [], hW', trodAll_mk1 (shut_bool Tryz.underlying4 _), (trodAll_cons_mk (Below.trod laidOut (by kernel_rfl) (of_decide_eq_true (by kernel_rfl)) k0_ bel lt0) trodAll_mk0), rfl, bel.frame _, fun h => by cases h⟩
theorem over : Rows.fnVerdictsRow.holds Tryz.pinned (OpenSpec.ofChange Rows.fnVerdictsSpec) :=
  OpenClaim.holds_of_wide 4 Tryz.f4 rfl rfl rfl rfl rfl rfl rfl ⟨rfl, rfl, rfl, rfl, rfl⟩ rfl rfl rfl rfl rfl (by kernel_rfl) Tryz.func4 (by kernel_rfl)
    (of_decide_eq_true (by kernel_rfl)) (by unfold Func.isWrapper; first | (rw [if_pos (by decide +kernel)]; kernel_rfl) | (rw [if_neg (by decide +kernel)]; exact ⟨rfl, rfl⟩))
    (fun os started H enc _ => lifted os started H enc)
theorem proved : Rows.FnVerdictsSaid := over
end Go.Proofs.YtimdefbpoddoaaaGreat.fnVerdicts
namespace Go.Proofs.YtimdefbpoddoaaaGreat
/-- The row, under a short name, for the claim. -/
theorem fnVerdicts_holds : Rows.FnVerdictsSaid := fnVerdicts.proved
#print axioms fnVerdicts_holds
end Go.Proofs.YtimdefbpoddoaaaGreat
