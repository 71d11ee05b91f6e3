/- The row of the law FnExactSameNet: for every input it returns true, and each argument reads behind the call as it read before. No condition. -/
import Derived.Test.YtogapggfegplkaaRows
import Derived.Test.YtogapggfegplkaaPFnExactSameNetx10
import Derived.Test.YtogapggfegplkaaPureFnExactSameNet
import Derived.Test.YtogapggfegplkaaOp
import Derived.WalkKit
import Derived.ProofKit
import Derived.OpenShut
import Derived.ShutString
import Derived.ChangeOld
import Derived.Below
import Derived.SizedLaws
import Derived.Carry
import Derived.KernelRfl
namespace Go.Proofs.Ytogapggfegplkaa.fnExactSameNet
open Go.ChangeShapes Go.WideShapes Go.ChangeAt Go.RowKit Go.Proofs.YtogapggfegplkaaW.PrintWords Go.Proofs.Ytogapggfegplkaa.Op Go.Proofs.Ytogapggfegplkaa.PFnExactSameNet Go.Proofs.Ytogapggfegplkaa.Pure
set_option linter.unusedVariables false
theorem own : ownKnob Try.prog.godebug = none := by kernel_rfl
theorem laidOut : laidOutB Try.prog = true := by kernel_rfl
theorem op183 : Opens Try.prog 183 k183 G183 := Opens.iso (Opens.struct Try.underlying183 (by kernel_rfl) (OpensF.cons (by kernel_rfl) (by kernel_rfl) (Opens.int Try.underlying3) (OpensF.cons (by kernel_rfl) (by kernel_rfl) (Opens.int Try.underlying3) (OpensF.cons (by kernel_rfl) (by kernel_rfl) (Opens.int Try.underlying3) (OpensF.cons (by kernel_rfl) (by kernel_rfl) (Opens.bool Try.underlying4) (OpensF.one (by kernel_rfl) (by kernel_rfl) (Opens.bool Try.underlying4))))))) (fun x : S183 => (x.f0, x.f1, x.f2, x.f3, x.f4)) (fun p => ⟨p.1, p.2.1, p.2.2.1, p.2.2.2.1, p.2.2.2.2⟩) (fun _ => rfl)
theorem op162 : Opens Try.prog 162 (Kd.slice 183 k183) G162 := (Opens.slice Try.underlying162 (by kernel_rfl) op183)
set_option maxRecDepth 100000 in
theorem lifted (os : Os) (started : os.Started) (H : Type) (enc : TypeId × Value → H) :
    ReturnsInHanded {} Try.checked os 10 .any (Rows.fnExactSameNetSpec.pre6 enc Try.prog Try.f10 Rows.fnExactSameNetRow.domain false) (Rows.fnExactSameNetSpec.post enc Try.prog Try.f10 false true false false) := by
  refine returnsInHanded_of_change_sized (C := Try.checked) own started (by kernel_rfl) Try.func10
    (ChangeSpec.witness6 (enc := enc) (C := Try.checked) false ⟨#[], #[.agg #[.int .i64 0, .int .i64 0, .slice none 0 0, .slice none 0 0, .slice none 0 0, .slice none 0 0, .slice none 0 0, .slice none 0 0, .slice none 0 0, .slice none 0 0, .int .i64 0], .agg #[.int .i64 0, .int .i64 0, .slice none 0 0, .slice none 0 0, .slice none 0 0, .slice none 0 0, .slice none 0 0, .slice none 0 0, .slice none 0 0, .slice none 0 0, .int .i64 0]], []⟩ 8 (by kernel_rfl) (by kernel_rfl) (by kernel_rfl) (by kernel_rfl)) ?_
  intro W base args ds gs before hval0 hW hcnd hsz0 _
  have hval : ∀ (j : Nat) t v, Try.f10.params[j]? = some t → args[j]? = some v → Value.okWide Try.prog W .any base t v := hval0
  have hW' := hW
  obtain ⟨p, q, hA0, hV, rfl, hfz, hnd⟩ := hW
  have hA : DataW.TrodAll enc Try.prog W 0 (fun _ => true) true Try.f10.params.toList args.toList ds p := hA0
  rw [Try.params10] at hA hval
  obtain ⟨v0, vs0, d0, ds0, p0, q0, hargs, rfl, rfl, h0, r0⟩ := trodAll_cons hA
  obtain ⟨v1, vs1, d1, ds1, p1, q1, rfl, rfl, rfl, h1, r1⟩ := trodAll_cons r0
  obtain ⟨rfl, rfl, rfl⟩ := trodAll_nil r1
  obtain rfl : args = #[v0, v1] := by cases args; simp_all
  obtain ⟨rfl, rfl⟩ := trodVars_none hV
  have k0_ := h0
  have lt0 : ∀ x ∈ p0, x.block < W.heap.size := by obtain ⟨m, hm⟩ := k0_; exact DataW.trod_lt m _ _ _ hm
  obtain ⟨⟨cs0⟩, rfl, _⟩ := okWide_struct Try.underlying78 (hval 0 78 v0 rfl rfl)
  obtain ⟨x0, hK0, g0⟩ := arg (Opens.struct Try.underlying78 (by kernel_rfl) (OpensF.cons (by kernel_rfl) (by kernel_rfl) (Opens.struct Try.underlying64 (by kernel_rfl) (OpensF.cons (by kernel_rfl) (by kernel_rfl) (Opens.struct Try.underlying62 (by kernel_rfl) (OpensF.cons (by kernel_rfl) (by kernel_rfl) (Opens.int Try.underlying3) (OpensF.one (by kernel_rfl) (by kernel_rfl) (Opens.int Try.underlying3)))) (OpensF.one (by kernel_rfl) (by kernel_rfl) (Opens.slice Try.underlying26 (by kernel_rfl) (Opens.int Try.underlying3))))) (OpensF.cons (by kernel_rfl) (by kernel_rfl) (Opens.struct Try.underlying67 (by kernel_rfl) (OpensF.cons (by kernel_rfl) (by kernel_rfl) (Opens.struct Try.underlying65 (by kernel_rfl) (OpensF.one (by kernel_rfl) (by kernel_rfl) (Opens.slice Try.underlying26 (by kernel_rfl) (Opens.int Try.underlying3)))) (OpensF.one (by kernel_rfl) (by kernel_rfl) (Opens.struct Try.underlying65 (by kernel_rfl) (OpensF.one (by kernel_rfl) (by kernel_rfl) (Opens.slice Try.underlying26 (by kernel_rfl) (Opens.int Try.underlying3))))))) (OpensF.cons (by kernel_rfl) (by kernel_rfl) (Opens.slice Try.underlying76 (by kernel_rfl) op162) (OpensF.cons (by kernel_rfl) (by kernel_rfl) (Opens.slice Try.underlying26 (by kernel_rfl) (Opens.int Try.underlying3)) (OpensF.cons (by kernel_rfl) (by kernel_rfl) (Opens.slice Try.underlying26 (by kernel_rfl) (Opens.int Try.underlying3)) (OpensF.cons (by kernel_rfl) (by kernel_rfl) (Opens.slice Try.underlying76 (by kernel_rfl) op162) (OpensF.cons (by kernel_rfl) (by kernel_rfl) (Opens.slice Try.underlying76 (by kernel_rfl) op162) (OpensF.one (by kernel_rfl) (by kernel_rfl) (Opens.int Try.underlying3)))))))))) h0
  obtain ⟨y0, hy0⟩ : ∃ y, y = cs0 := ⟨_, rfl⟩
  change Kd.K (Kd.pair (Kd.pair (Kd.pair (Kd.int .i64) (Kd.int .i64)) (Kd.slice 3 (Kd.int .i64))) (Kd.pair (Kd.pair (Kd.slice 3 (Kd.int .i64)) (Kd.slice 3 (Kd.int .i64))) (Kd.pair (Kd.slice 162 (Kd.slice 183 k183)) (Kd.pair (Kd.slice 3 (Kd.int .i64)) (Kd.pair (Kd.slice 3 (Kd.int .i64)) (Kd.pair (Kd.slice 162 (Kd.slice 183 k183)) (Kd.pair (Kd.slice 162 (Kd.slice 183 k183)) (Kd.int .i64)))))))) W x0 cs0 at hK0
  obtain ⟨_, _, rfl, ⟨_, _, rfl, ⟨_, _, rfl, rfl, rfl⟩, ⟨A103, c103, rfl, hl103, hr103⟩⟩, ⟨_, _, rfl, ⟨_, _, rfl, ⟨A104, c104, rfl, hl104, hr104⟩, ⟨A105, c105, rfl, hl105, hr105⟩⟩, ⟨_, _, rfl, ⟨A106, c106, rfl, hl106, hr106⟩, ⟨_, _, rfl, ⟨A107, c107, rfl, hl107, hr107⟩, ⟨_, _, rfl, ⟨A108, c108, rfl, hl108, hr108⟩, ⟨_, _, rfl, ⟨A109, c109, rfl, hl109, hr109⟩, ⟨_, _, rfl, ⟨A110, c110, rfl, hl110, hr110⟩, rfl⟩⟩⟩⟩⟩⟩⟩ := hK0
  have k1_ := h1
  have lt1 : ∀ x ∈ p1, x.block < W.heap.size := by obtain ⟨m, hm⟩ := k1_; exact DataW.trod_lt m _ _ _ hm
  obtain ⟨⟨cs1⟩, rfl, _⟩ := okWide_struct Try.underlying78 (hval 1 78 v1 rfl rfl)
  obtain ⟨x1, hK1, g1⟩ := arg (Opens.struct Try.underlying78 (by kernel_rfl) (OpensF.cons (by kernel_rfl) (by kernel_rfl) (Opens.struct Try.underlying64 (by kernel_rfl) (OpensF.cons (by kernel_rfl) (by kernel_rfl) (Opens.struct Try.underlying62 (by kernel_rfl) (OpensF.cons (by kernel_rfl) (by kernel_rfl) (Opens.int Try.underlying3) (OpensF.one (by kernel_rfl) (by kernel_rfl) (Opens.int Try.underlying3)))) (OpensF.one (by kernel_rfl) (by kernel_rfl) (Opens.slice Try.underlying26 (by kernel_rfl) (Opens.int Try.underlying3))))) (OpensF.cons (by kernel_rfl) (by kernel_rfl) (Opens.struct Try.underlying67 (by kernel_rfl) (OpensF.cons (by kernel_rfl) (by kernel_rfl) (Opens.struct Try.underlying65 (by kernel_rfl) (OpensF.one (by kernel_rfl) (by kernel_rfl) (Opens.slice Try.underlying26 (by kernel_rfl) (Opens.int Try.underlying3)))) (OpensF.one (by kernel_rfl) (by kernel_rfl) (Opens.struct Try.underlying65 (by kernel_rfl) (OpensF.one (by kernel_rfl) (by kernel_rfl) (Opens.slice Try.underlying26 (by kernel_rfl) (Opens.int Try.underlying3))))))) (OpensF.cons (by kernel_rfl) (by kernel_rfl) (Opens.slice Try.underlying76 (by kernel_rfl) op162) (OpensF.cons (by kernel_rfl) (by kernel_rfl) (Opens.slice Try.underlying26 (by kernel_rfl) (Opens.int Try.underlying3)) (OpensF.cons (by kernel_rfl) (by kernel_rfl) (Opens.slice Try.underlying26 (by kernel_rfl) (Opens.int Try.underlying3)) (OpensF.cons (by kernel_rfl) (by kernel_rfl) (Opens.slice Try.underlying76 (by kernel_rfl) op162) (OpensF.cons (by kernel_rfl) (by kernel_rfl) (Opens.slice Try.underlying76 (by kernel_rfl) op162) (OpensF.one (by kernel_rfl) (by kernel_rfl) (Opens.int Try.underlying3)))))))))) h1
  obtain ⟨y1, hy1⟩ : ∃ y, y = cs1 := ⟨_, rfl⟩
  change Kd.K (Kd.pair (Kd.pair (Kd.pair (Kd.int .i64) (Kd.int .i64)) (Kd.slice 3 (Kd.int .i64))) (Kd.pair (Kd.pair (Kd.slice 3 (Kd.int .i64)) (Kd.slice 3 (Kd.int .i64))) (Kd.pair (Kd.slice 162 (Kd.slice 183 k183)) (Kd.pair (Kd.slice 3 (Kd.int .i64)) (Kd.pair (Kd.slice 3 (Kd.int .i64)) (Kd.pair (Kd.slice 162 (Kd.slice 183 k183)) (Kd.pair (Kd.slice 162 (Kd.slice 183 k183)) (Kd.int .i64)))))))) W x1 cs1 at hK1
  obtain ⟨_, _, rfl, ⟨_, _, rfl, ⟨_, _, rfl, rfl, rfl⟩, ⟨A203, c203, rfl, hl203, hr203⟩⟩, ⟨_, _, rfl, ⟨_, _, rfl, ⟨A204, c204, rfl, hl204, hr204⟩, ⟨A205, c205, rfl, hl205, hr205⟩⟩, ⟨_, _, rfl, ⟨A206, c206, rfl, hl206, hr206⟩, ⟨_, _, rfl, ⟨A207, c207, rfl, hl207, hr207⟩, ⟨_, _, rfl, ⟨A208, c208, rfl, hl208, hr208⟩, ⟨_, _, rfl, ⟨A209, c209, rfl, hl209, hr209⟩, ⟨_, _, rfl, ⟨A210, c210, rfl, hl210, hr210⟩, rfl⟩⟩⟩⟩⟩⟩⟩ := hK1
  clear hA0 hval0 hsz0
  obtain ⟨k, h⟩ := Pure.FnExactSameNet (x0.1.1.1) (x0.1.1.2) (x0.1.2) (x0.2.1.1) (x0.2.1.2) (x0.2.2.1) (x0.2.2.2.1) (x0.2.2.2.2.1) (x0.2.2.2.2.2.1) (x0.2.2.2.2.2.2.1) (x0.2.2.2.2.2.2.2) (x1.1.1.1) (x1.1.1.2) (x1.1.2) (x1.2.1.1) (x1.2.1.2) (x1.2.2.1) (x1.2.2.2.1) (x1.2.2.2.2.1) (x1.2.2.2.2.2.1) (x1.2.2.2.2.2.2.1) (x1.2.2.2.2.2.2.2) (g0.1.1.1) (g0.1.1.2) (g0.1.2.1) (g0.2.1.1.1) (g0.2.1.2.1) (g0.2.2.1) (g0.2.2.2.1.1) (g0.2.2.2.2.1.1) (g0.2.2.2.2.2.1) (g0.2.2.2.2.2.2.1) (g0.2.2.2.2.2.2.2) (g1.1.1.1) (g1.1.1.2) (g1.1.2.1) (g1.2.1.1.1) (g1.2.1.2.1) (g1.2.2.1) (g1.2.2.2.1.1) (g1.2.2.2.2.1.1) (g1.2.2.2.2.2.1) (g1.2.2.2.2.2.2.1) (g1.2.2.2.2.2.2.2)
  refine (laws_FnExactSameNet.calls k (x0.1.1.1) (x0.1.1.2) _ _ (x0.1.2) _ _ (x0.2.1.1) _ _ (x0.2.1.2) _ _ (x0.2.2.1) _ _ (x0.2.2.2.1) _ _ (x0.2.2.2.2.1) _ _ (x0.2.2.2.2.2.1) _ _ (x0.2.2.2.2.2.2.1) (x0.2.2.2.2.2.2.2) (x1.1.1.1) (x1.1.1.2) _ _ (x1.1.2) _ _ (x1.2.1.1) _ _ (x1.2.1.2) _ _ (x1.2.2.1) _ _ (x1.2.2.2.1) _ _ (x1.2.2.2.2.1) _ _ (x1.2.2.2.2.2.1) _ _ (x1.2.2.2.2.2.2.1) (x1.2.2.2.2.2.2.2) true W hr103 hl103 hr104 hl104 hr105 hl105 hr106 hl106 hr107 hl107 hr108 hl108 hr109 hl109 hr110 hl110 hr203 hl203 hr204 hl204 hr205 hl205 hr206 hl206 hr207 hl207 hr208 hl208 hr209 hl209 hr210 hl210 h).mono fun e W' ⟨he, bel⟩ => ?_
  subst he
  exact ⟨_, rfl, _, _, _, [], _, [], hW', trodAll_mk1 (shut_bool Try.underlying4 _), (trodAll_cons_mk (Below.trod laidOut (by kernel_rfl) (of_decide_eq_true (by kernel_rfl)) k0_ bel lt0) (trodAll_cons_mk (Below.trod laidOut (by kernel_rfl) (of_decide_eq_true (by kernel_rfl)) k1_ bel lt1) trodAll_mk0)), rfl, bel.frame _, fun h => by cases h⟩
theorem over : Rows.fnExactSameNetRow.holds Try.pinned (OpenSpec.ofChange Rows.fnExactSameNetSpec) :=
  OpenClaim.holds_of_wide 10 Try.f10 rfl rfl rfl rfl rfl rfl rfl ⟨rfl, rfl, rfl, rfl, rfl⟩ rfl rfl rfl rfl rfl (by kernel_rfl) Try.func10 (by kernel_rfl)
    (of_decide_eq_true (by kernel_rfl)) (by unfold Func.isWrapper; first | (rw [if_pos (by decide +kernel)]; kernel_rfl) | (rw [if_neg (by decide +kernel)]; exact ⟨rfl, rfl⟩))
    (fun os started H enc _ => lifted os started H enc)
theorem proved : Rows.FnExactSameNetSaid := over
end Go.Proofs.Ytogapggfegplkaa.fnExactSameNet
namespace Go.Proofs.Ytogapggfegplkaa
/-- The row, under a short name, for the claim. -/
theorem fnExactSameNet_holds : Rows.FnExactSameNetSaid := fnExactSameNet.proved
#print axioms fnExactSameNet_holds
end Go.Proofs.Ytogapggfegplkaa
