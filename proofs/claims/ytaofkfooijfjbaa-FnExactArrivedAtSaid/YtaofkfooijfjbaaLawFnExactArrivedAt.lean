/- The row of the law FnExactArrivedAt: for every input it returns true, and each argument reads behind the call as it read before. No condition. -/
import Derived.Test.YtaofkfooijfjbaaRows
import Derived.Test.YtaofkfooijfjbaaPFnExactArrivedAtx16
import Derived.Test.YtaofkfooijfjbaaPureFnExactArrivedAt
import Derived.Test.YtaofkfooijfjbaaOp
import Derived.WalkKit
import Derived.ProofKit
import Derived.OpenShut
import Derived.ShutString
import Derived.ChangeOld
import Derived.Below
import Derived.SizedLaws
import Derived.Carry
import Derived.KernelRfl
namespace Go.Proofs.Ytaofkfooijfjbaa.fnExactArrivedAt
open Go.ChangeShapes Go.WideShapes Go.ChangeAt Go.RowKit Go.Proofs.YtaofkfooijfjbaaW.PrintWords Go.Proofs.Ytaofkfooijfjbaa.Op Go.Proofs.Ytaofkfooijfjbaa.PFnExactArrivedAt Go.Proofs.Ytaofkfooijfjbaa.Pure
set_option linter.unusedVariables false
theorem own : ownKnob Try.prog.godebug = none := by kernel_rfl
theorem laidOut : laidOutB Try.prog = true := by kernel_rfl
theorem op133 : Opens Try.prog 133 k133 G133 := Opens.iso (Opens.struct Try.underlying133 (by kernel_rfl) (OpensF.cons (by kernel_rfl) (by kernel_rfl) (Opens.int Try.underlying3) (OpensF.cons (by kernel_rfl) (by kernel_rfl) (Opens.int Try.underlying3) (OpensF.cons (by kernel_rfl) (by kernel_rfl) (Opens.int Try.underlying3) (OpensF.cons (by kernel_rfl) (by kernel_rfl) (Opens.bool Try.underlying4) (OpensF.one (by kernel_rfl) (by kernel_rfl) (Opens.bool Try.underlying4))))))) (fun x : S133 => (x.f0, x.f1, x.f2, x.f3, x.f4)) (fun p => ⟨p.1, p.2.1, p.2.2.1, p.2.2.2.1, p.2.2.2.2⟩) (fun _ => rfl)
theorem op117 : Opens Try.prog 117 (Kd.slice 133 k133) G117 := (Opens.slice Try.underlying117 (by kernel_rfl) op133)
set_option maxRecDepth 100000 in
theorem lifted (os : Os) (started : os.Started) (H : Type) (enc : TypeId × Value → H) :
    ReturnsInHanded {} Try.checked os 7 .any (Rows.fnExactArrivedAtSpec.pre6 enc Try.prog Try.f7 Rows.fnExactArrivedAtRow.domain false) (Rows.fnExactArrivedAtSpec.post enc Try.prog Try.f7 false true false false) := by
  refine returnsInHanded_of_change_sized (C := Try.checked) own started (by kernel_rfl) Try.func7
    (ChangeSpec.witness6 (enc := enc) (C := Try.checked) false ⟨#[], #[.agg #[.int .i64 0, .int .i64 0, .slice none 0 0, .slice none 0 0, .slice none 0 0, .slice none 0 0, .slice none 0 0, .slice none 0 0, .slice none 0 0, .slice none 0 0, .int .i64 0], .int .i64 0, .int .i64 0], []⟩ 8 (by kernel_rfl) (by kernel_rfl) (by kernel_rfl) (by kernel_rfl)) ?_
  intro W base args ds gs before hval0 hW hcnd hsz0 _
  have hval : ∀ (j : Nat) t v, Try.f7.params[j]? = some t → args[j]? = some v → Value.okWide Try.prog W .any base t v := hval0
  have hW' := hW
  obtain ⟨p, q, hA0, hV, rfl, hfz, hnd⟩ := hW
  have hA : DataW.TrodAll enc Try.prog W 0 (fun _ => true) true Try.f7.params.toList args.toList ds p := hA0
  rw [Try.params7] at hA hval
  obtain ⟨v0, vs0, d0, ds0, p0, q0, hargs, rfl, rfl, h0, r0⟩ := trodAll_cons hA
  obtain ⟨v1, vs1, d1, ds1, p1, q1, rfl, rfl, rfl, h1, r1⟩ := trodAll_cons r0
  obtain ⟨v2, vs2, d2, ds2, p2, q2, rfl, rfl, rfl, h2, r2⟩ := trodAll_cons r1
  obtain ⟨rfl, rfl, rfl⟩ := trodAll_nil r2
  obtain rfl : args = #[v0, v1, v2] := by cases args; simp_all
  obtain ⟨rfl, rfl⟩ := trodVars_none hV
  have k0_ := h0
  have lt0 : ∀ x ∈ p0, x.block < W.heap.size := by obtain ⟨m, hm⟩ := k0_; exact DataW.trod_lt m _ _ _ hm
  obtain ⟨⟨cs0⟩, rfl, _⟩ := okWide_struct Try.underlying63 (hval 0 63 v0 rfl rfl)
  obtain ⟨x0, hK0, g0⟩ := arg (Opens.struct Try.underlying63 (by kernel_rfl) (OpensF.cons (by kernel_rfl) (by kernel_rfl) (Opens.struct Try.underlying46 (by kernel_rfl) (OpensF.cons (by kernel_rfl) (by kernel_rfl) (Opens.struct Try.underlying44 (by kernel_rfl) (OpensF.cons (by kernel_rfl) (by kernel_rfl) (Opens.int Try.underlying3) (OpensF.one (by kernel_rfl) (by kernel_rfl) (Opens.int Try.underlying3)))) (OpensF.one (by kernel_rfl) (by kernel_rfl) (Opens.slice Try.underlying26 (by kernel_rfl) (Opens.int Try.underlying3))))) (OpensF.cons (by kernel_rfl) (by kernel_rfl) (Opens.struct Try.underlying49 (by kernel_rfl) (OpensF.cons (by kernel_rfl) (by kernel_rfl) (Opens.struct Try.underlying47 (by kernel_rfl) (OpensF.one (by kernel_rfl) (by kernel_rfl) (Opens.slice Try.underlying26 (by kernel_rfl) (Opens.int Try.underlying3)))) (OpensF.one (by kernel_rfl) (by kernel_rfl) (Opens.struct Try.underlying47 (by kernel_rfl) (OpensF.one (by kernel_rfl) (by kernel_rfl) (Opens.slice Try.underlying26 (by kernel_rfl) (Opens.int Try.underlying3))))))) (OpensF.cons (by kernel_rfl) (by kernel_rfl) (Opens.slice Try.underlying61 (by kernel_rfl) op117) (OpensF.cons (by kernel_rfl) (by kernel_rfl) (Opens.slice Try.underlying26 (by kernel_rfl) (Opens.int Try.underlying3)) (OpensF.cons (by kernel_rfl) (by kernel_rfl) (Opens.slice Try.underlying26 (by kernel_rfl) (Opens.int Try.underlying3)) (OpensF.cons (by kernel_rfl) (by kernel_rfl) (Opens.slice Try.underlying61 (by kernel_rfl) op117) (OpensF.cons (by kernel_rfl) (by kernel_rfl) (Opens.slice Try.underlying61 (by kernel_rfl) op117) (OpensF.one (by kernel_rfl) (by kernel_rfl) (Opens.int Try.underlying3)))))))))) h0
  obtain ⟨y0, hy0⟩ : ∃ y, y = cs0 := ⟨_, rfl⟩
  change Kd.K (Kd.pair (Kd.pair (Kd.pair (Kd.int .i64) (Kd.int .i64)) (Kd.slice 3 (Kd.int .i64))) (Kd.pair (Kd.pair (Kd.slice 3 (Kd.int .i64)) (Kd.slice 3 (Kd.int .i64))) (Kd.pair (Kd.slice 117 (Kd.slice 133 k133)) (Kd.pair (Kd.slice 3 (Kd.int .i64)) (Kd.pair (Kd.slice 3 (Kd.int .i64)) (Kd.pair (Kd.slice 117 (Kd.slice 133 k133)) (Kd.pair (Kd.slice 117 (Kd.slice 133 k133)) (Kd.int .i64)))))))) W x0 cs0 at hK0
  obtain ⟨_, _, rfl, ⟨_, _, rfl, ⟨_, _, rfl, rfl, rfl⟩, ⟨A103, c103, rfl, hl103, hr103⟩⟩, ⟨_, _, rfl, ⟨_, _, rfl, ⟨A104, c104, rfl, hl104, hr104⟩, ⟨A105, c105, rfl, hl105, hr105⟩⟩, ⟨_, _, rfl, ⟨A106, c106, rfl, hl106, hr106⟩, ⟨_, _, rfl, ⟨A107, c107, rfl, hl107, hr107⟩, ⟨_, _, rfl, ⟨A108, c108, rfl, hl108, hr108⟩, ⟨_, _, rfl, ⟨A109, c109, rfl, hl109, hr109⟩, ⟨_, _, rfl, ⟨A110, c110, rfl, hl110, hr110⟩, rfl⟩⟩⟩⟩⟩⟩⟩ := hK0
  obtain ⟨a1, rfl, rfl, rfl, w1⟩ := open_int Try.underlying3 (hval 1 3 v1 rfl rfl) h1
  obtain ⟨a2, rfl, rfl, rfl, w2⟩ := open_int Try.underlying3 (hval 2 3 v2 rfl rfl) h2
  clear hA0 hval0 hsz0
  obtain ⟨k, h⟩ := Pure.FnExactArrivedAt (x0.1.1.1) (x0.1.1.2) (x0.1.2) (x0.2.1.1) (x0.2.1.2) (x0.2.2.1) (x0.2.2.2.1) (x0.2.2.2.2.1) (x0.2.2.2.2.2.1) (x0.2.2.2.2.2.2.1) (x0.2.2.2.2.2.2.2) a1 a2 (g0.1.1.1) (g0.1.1.2) (g0.1.2.1) (g0.2.1.1.1) (g0.2.1.2.1) (g0.2.2.1) (g0.2.2.2.1.1) (g0.2.2.2.2.1.1) (g0.2.2.2.2.2.1) (g0.2.2.2.2.2.2.1) (g0.2.2.2.2.2.2.2) w1 w2
  refine (laws_FnExactArrivedAt.calls k (x0.1.1.1) (x0.1.1.2) _ _ (x0.1.2) _ _ (x0.2.1.1) _ _ (x0.2.1.2) _ _ (x0.2.2.1) _ _ (x0.2.2.2.1) _ _ (x0.2.2.2.2.1) _ _ (x0.2.2.2.2.2.1) _ _ (x0.2.2.2.2.2.2.1) (x0.2.2.2.2.2.2.2) a1 a2 true W hr103 hl103 hr104 hl104 hr105 hl105 hr106 hl106 hr107 hl107 hr108 hl108 hr109 hl109 hr110 hl110 h).mono fun e W' ⟨he, bel⟩ => ?_
  subst he
  exact ⟨_, rfl, _, _, _, [], _, [], hW', trodAll_mk1 (shut_bool Try.underlying4 _), (trodAll_cons_mk (Below.trod laidOut (by kernel_rfl) (of_decide_eq_true (by kernel_rfl)) k0_ bel lt0) (trodAll_cons_mk (shut_int Try.underlying3 w1) (trodAll_cons_mk (shut_int Try.underlying3 w2) trodAll_mk0))), rfl, bel.frame _, fun h => by cases h⟩
theorem over : Rows.fnExactArrivedAtRow.holds Try.pinned (OpenSpec.ofChange Rows.fnExactArrivedAtSpec) :=
  OpenClaim.holds_of_wide 7 Try.f7 rfl rfl rfl rfl rfl rfl rfl ⟨rfl, rfl, rfl, rfl, rfl⟩ rfl rfl rfl rfl rfl (by kernel_rfl) Try.func7 (by kernel_rfl)
    (of_decide_eq_true (by kernel_rfl)) (by unfold Func.isWrapper; first | (rw [if_pos (by decide +kernel)]; kernel_rfl) | (rw [if_neg (by decide +kernel)]; exact ⟨rfl, rfl⟩))
    (fun os started H enc _ => lifted os started H enc)
theorem proved : Rows.FnExactArrivedAtSaid := over
end Go.Proofs.Ytaofkfooijfjbaa.fnExactArrivedAt
namespace Go.Proofs.Ytaofkfooijfjbaa
/-- The row, under a short name, for the claim. -/
theorem fnExactArrivedAt_holds : Rows.FnExactArrivedAtSaid := fnExactArrivedAt.proved
#print axioms fnExactArrivedAt_holds
end Go.Proofs.Ytaofkfooijfjbaa
