/-
  No cell of these rows narrows 'for every input' (looked for: loops, veiled, ifaces, maps, wideKeys, modest, calm, conditions, laid).
  DERIVED. THE GIVEN ROWS OF THIS SEAT. 12 by the template 'for every input the law returns true; each argument reads behind the call as it read before'; 0 by the template 'total and deterministic' (their statements: YtogapggfegplkaaTotals.lean).
  GIVEN WITH THE SEED: the statements are not yours to turn. If you find one false, say at which input.
  Laid BY PROGRAM, IN A SANDBOX (cutbox-rows.mjs): the forced cells as the released guide's own fill.sh prints them over the translation e00815646920102e… (all of the seat's roots in one cut). By AI agents, Wed Nov 11 2026. No macro, syntax, notation, axiom, sorry.
-/
import Derived.Test.YtogapggfegplkaaChecked
import GoSem.Claim
import GoSem.ClaimJoined
import GoSem.ClaimMapViews
import Derived.JoinedTies
import Derived.KernelRfl
namespace Go.Proofs.Ytogapggfegplkaa
/- THE CELL 'sum', in the pinned program and in every row, IS THE sha256 OF THE DUMP (.gsa) THAT YtogapggfegplkaaProg.lean LOADS. Nothing in Lean hashes anything: it is a label: what it is worth is what the hold of that sum in a sandbox is worth. -/
noncomputable def Try.pinned : Pinned := { name := "ytogapggfegplkaa", sum := "e00815646920102e80ad384278e99ce9a35cc0c4608f1727d7fe6c5e9547791b", checked := Try.checked }
namespace Rows
def none {H : Type} : Left H := { results := [], args := [] }

/-- 'laws.FnOrders': WHATEVER THE INPUT: true; the input reads as it did. -/
def fnOrdersSpec : ChangeSpec := { name := "fnOrders", fn := fun _ => fun
  | [d] => { results := [.lit (.bool true)], args := [d] }
  | _ => none }
def fnOrdersRow : OpenClaim := { program := "ytogapggfegplkaa", sum := "e00815646920102e80ad384278e99ce9a35cc0c4608f1727d7fe6c5e9547791b", func := "loop.example/g00984/laws.FnOrders", spec := "fnOrders", unfollowed := true, recurses := true, apart := false }
def FnOrdersSaid : Prop := fnOrdersRow.holds Try.pinned (OpenSpec.ofChange fnOrdersSpec)

/-- ITS FALSE NEIGHBOUR: 'it returns false'. Refute it at one input. -/
def fnOrdersWrong : ChangeSpec := { name := "fnOrders", fn := fun _ => fun
  | [d] => { results := [.lit (.bool false)], args := [d] }
  | _ => none }
def FnOrdersWrongFalsely : Prop := fnOrdersRow.holds Try.pinned (OpenSpec.ofChange fnOrdersWrong)

/-- 'laws.FnExactOrderOf': WHATEVER THE INPUT: true; the input reads as it did. -/
def fnExactOrderOfSpec : ChangeSpec := { name := "fnExactOrderOf", fn := fun _ => fun
  | [d] => { results := [.lit (.bool true)], args := [d] }
  | _ => none }
def fnExactOrderOfRow : OpenClaim := { program := "ytogapggfegplkaa", sum := "e00815646920102e80ad384278e99ce9a35cc0c4608f1727d7fe6c5e9547791b", func := "loop.example/g00984/laws.FnExactOrderOf", spec := "fnExactOrderOf", unfollowed := true, recurses := true, apart := false }
def FnExactOrderOfSaid : Prop := fnExactOrderOfRow.holds Try.pinned (OpenSpec.ofChange fnExactOrderOfSpec)

/-- ITS FALSE NEIGHBOUR: 'it returns false'. Refute it at one input. -/
def fnExactOrderOfWrong : ChangeSpec := { name := "fnExactOrderOf", fn := fun _ => fun
  | [d] => { results := [.lit (.bool false)], args := [d] }
  | _ => none }
def FnExactOrderOfWrongFalsely : Prop := fnExactOrderOfRow.holds Try.pinned (OpenSpec.ofChange fnExactOrderOfWrong)

/-- 'laws.FnExactHasCycle': WHATEVER THE INPUT: true; the input reads as it did. -/
def fnExactHasCycleSpec : ChangeSpec := { name := "fnExactHasCycle", fn := fun _ => fun
  | [d] => { results := [.lit (.bool true)], args := [d] }
  | _ => none }
def fnExactHasCycleRow : OpenClaim := { program := "ytogapggfegplkaa", sum := "e00815646920102e80ad384278e99ce9a35cc0c4608f1727d7fe6c5e9547791b", func := "loop.example/g00984/laws.FnExactHasCycle", spec := "fnExactHasCycle", apart := false }
def FnExactHasCycleSaid : Prop := fnExactHasCycleRow.holds Try.pinned (OpenSpec.ofChange fnExactHasCycleSpec)

/-- ITS FALSE NEIGHBOUR: 'it returns false'. Refute it at one input. -/
def fnExactHasCycleWrong : ChangeSpec := { name := "fnExactHasCycle", fn := fun _ => fun
  | [d] => { results := [.lit (.bool false)], args := [d] }
  | _ => none }
def FnExactHasCycleWrongFalsely : Prop := fnExactHasCycleRow.holds Try.pinned (OpenSpec.ofChange fnExactHasCycleWrong)

/-- 'laws.FnCycles': WHATEVER THE INPUT: true; the input reads as it did. -/
def fnCyclesSpec : ChangeSpec := { name := "fnCycles", fn := fun _ => fun
  | [d] => { results := [.lit (.bool true)], args := [d] }
  | _ => none }
def fnCyclesRow : OpenClaim := { program := "ytogapggfegplkaa", sum := "e00815646920102e80ad384278e99ce9a35cc0c4608f1727d7fe6c5e9547791b", func := "loop.example/g00984/laws.FnCycles", spec := "fnCycles", unfollowed := true, recurses := true, apart := false }
def FnCyclesSaid : Prop := fnCyclesRow.holds Try.pinned (OpenSpec.ofChange fnCyclesSpec)

/-- ITS FALSE NEIGHBOUR: 'it returns false'. Refute it at one input. -/
def fnCyclesWrong : ChangeSpec := { name := "fnCycles", fn := fun _ => fun
  | [d] => { results := [.lit (.bool false)], args := [d] }
  | _ => none }
def FnCyclesWrongFalsely : Prop := fnCyclesRow.holds Try.pinned (OpenSpec.ofChange fnCyclesWrong)

/-- 'laws.FnExactShortestCycle': WHATEVER THE INPUT: true; the input reads as it did. -/
def fnExactShortestCycleSpec : ChangeSpec := { name := "fnExactShortestCycle", fn := fun _ => fun
  | [d] => { results := [.lit (.bool true)], args := [d] }
  | _ => none }
def fnExactShortestCycleRow : OpenClaim := { program := "ytogapggfegplkaa", sum := "e00815646920102e80ad384278e99ce9a35cc0c4608f1727d7fe6c5e9547791b", func := "loop.example/g00984/laws.FnExactShortestCycle", spec := "fnExactShortestCycle", apart := false }
def FnExactShortestCycleSaid : Prop := fnExactShortestCycleRow.holds Try.pinned (OpenSpec.ofChange fnExactShortestCycleSpec)

/-- ITS FALSE NEIGHBOUR: 'it returns false'. Refute it at one input. -/
def fnExactShortestCycleWrong : ChangeSpec := { name := "fnExactShortestCycle", fn := fun _ => fun
  | [d] => { results := [.lit (.bool false)], args := [d] }
  | _ => none }
def FnExactShortestCycleWrongFalsely : Prop := fnExactShortestCycleRow.holds Try.pinned (OpenSpec.ofChange fnExactShortestCycleWrong)

/-- 'laws.FnNewNets': WHATEVER THE INPUT: true; the input reads as it did. -/
def fnNewNetsSpec : ChangeSpec := { name := "fnNewNets", fn := fun _ => fun
  | [d] => { results := [.lit (.bool true)], args := [d] }
  | _ => none }
def fnNewNetsRow : OpenClaim := { program := "ytogapggfegplkaa", sum := "e00815646920102e80ad384278e99ce9a35cc0c4608f1727d7fe6c5e9547791b", func := "loop.example/g00984/laws.FnNewNets", spec := "fnNewNets", unfollowed := true, recurses := true, apart := false }
def FnNewNetsSaid : Prop := fnNewNetsRow.holds Try.pinned (OpenSpec.ofChange fnNewNetsSpec)

/-- ITS FALSE NEIGHBOUR: 'it returns false'. Refute it at one input. -/
def fnNewNetsWrong : ChangeSpec := { name := "fnNewNets", fn := fun _ => fun
  | [d] => { results := [.lit (.bool false)], args := [d] }
  | _ => none }
def FnNewNetsWrongFalsely : Prop := fnNewNetsRow.holds Try.pinned (OpenSpec.ofChange fnNewNetsWrong)

/-- 'laws.FnExactClassesOk': WHATEVER THE INPUT: true; the input reads as it did. -/
def fnExactClassesOkSpec : ChangeSpec := { name := "fnExactClassesOk", fn := fun _ => fun
  | [d1, d2] => { results := [.lit (.bool true)], args := [d1, d2] }
  | _ => none }
def fnExactClassesOkRow : OpenClaim := { program := "ytogapggfegplkaa", sum := "e00815646920102e80ad384278e99ce9a35cc0c4608f1727d7fe6c5e9547791b", func := "loop.example/g00984/laws.FnExactClassesOk", spec := "fnExactClassesOk", unfollowed := true, recurses := true, apart := false }
def FnExactClassesOkSaid : Prop := fnExactClassesOkRow.holds Try.pinned (OpenSpec.ofChange fnExactClassesOkSpec)

/-- ITS FALSE NEIGHBOUR: 'it returns false'. Refute it at one input. -/
def fnExactClassesOkWrong : ChangeSpec := { name := "fnExactClassesOk", fn := fun _ => fun
  | [d1, d2] => { results := [.lit (.bool false)], args := [d1, d2] }
  | _ => none }
def FnExactClassesOkWrongFalsely : Prop := fnExactClassesOkRow.holds Try.pinned (OpenSpec.ofChange fnExactClassesOkWrong)

/-- 'laws.FnExactSameNet': WHATEVER THE INPUT: true; the input reads as it did. -/
def fnExactSameNetSpec : ChangeSpec := { name := "fnExactSameNet", fn := fun _ => fun
  | [d1, d2] => { results := [.lit (.bool true)], args := [d1, d2] }
  | _ => none }
def fnExactSameNetRow : OpenClaim := { program := "ytogapggfegplkaa", sum := "e00815646920102e80ad384278e99ce9a35cc0c4608f1727d7fe6c5e9547791b", func := "loop.example/g00984/laws.FnExactSameNet", spec := "fnExactSameNet", unfollowed := true, recurses := true, apart := false }
def FnExactSameNetSaid : Prop := fnExactSameNetRow.holds Try.pinned (OpenSpec.ofChange fnExactSameNetSpec)

/-- ITS FALSE NEIGHBOUR: 'it returns false'. Refute it at one input. -/
def fnExactSameNetWrong : ChangeSpec := { name := "fnExactSameNet", fn := fun _ => fun
  | [d1, d2] => { results := [.lit (.bool false)], args := [d1, d2] }
  | _ => none }
def FnExactSameNetWrongFalsely : Prop := fnExactSameNetRow.holds Try.pinned (OpenSpec.ofChange fnExactSameNetWrong)

/-- 'laws.FnSends': WHATEVER THE INPUT: true; the input reads as it did. -/
def fnSendsSpec : ChangeSpec := { name := "fnSends", fn := fun _ => fun
  | [d] => { results := [.lit (.bool true)], args := [d] }
  | _ => none }
def fnSendsRow : OpenClaim := { program := "ytogapggfegplkaa", sum := "e00815646920102e80ad384278e99ce9a35cc0c4608f1727d7fe6c5e9547791b", func := "loop.example/g00984/laws.FnSends", spec := "fnSends", unfollowed := true, recurses := true, apart := false }
def FnSendsSaid : Prop := fnSendsRow.holds Try.pinned (OpenSpec.ofChange fnSendsSpec)

/-- ITS FALSE NEIGHBOUR: 'it returns false'. Refute it at one input. -/
def fnSendsWrong : ChangeSpec := { name := "fnSends", fn := fun _ => fun
  | [d] => { results := [.lit (.bool false)], args := [d] }
  | _ => none }
def FnSendsWrongFalsely : Prop := fnSendsRow.holds Try.pinned (OpenSpec.ofChange fnSendsWrong)

/-- 'laws.FnExactNetOk': WHATEVER THE INPUT: true; the input reads as it did. -/
def fnExactNetOkSpec : ChangeSpec := { name := "fnExactNetOk", fn := fun _ => fun
  | [d] => { results := [.lit (.bool true)], args := [d] }
  | _ => none }
def fnExactNetOkRow : OpenClaim := { program := "ytogapggfegplkaa", sum := "e00815646920102e80ad384278e99ce9a35cc0c4608f1727d7fe6c5e9547791b", func := "loop.example/g00984/laws.FnExactNetOk", spec := "fnExactNetOk", unfollowed := true, recurses := true, apart := false }
def FnExactNetOkSaid : Prop := fnExactNetOkRow.holds Try.pinned (OpenSpec.ofChange fnExactNetOkSpec)

/-- ITS FALSE NEIGHBOUR: 'it returns false'. Refute it at one input. -/
def fnExactNetOkWrong : ChangeSpec := { name := "fnExactNetOk", fn := fun _ => fun
  | [d] => { results := [.lit (.bool false)], args := [d] }
  | _ => none }
def FnExactNetOkWrongFalsely : Prop := fnExactNetOkRow.holds Try.pinned (OpenSpec.ofChange fnExactNetOkWrong)

/-- 'laws.FnExactNetNew': WHATEVER THE INPUT: true; the input reads as it did. -/
def fnExactNetNewSpec : ChangeSpec := { name := "fnExactNetNew", fn := fun _ => fun
  | [d1, d2] => { results := [.lit (.bool true)], args := [d1, d2] }
  | _ => none }
def fnExactNetNewRow : OpenClaim := { program := "ytogapggfegplkaa", sum := "e00815646920102e80ad384278e99ce9a35cc0c4608f1727d7fe6c5e9547791b", func := "loop.example/g00984/laws.FnExactNetNew", spec := "fnExactNetNew", unfollowed := true, recurses := true, apart := false }
def FnExactNetNewSaid : Prop := fnExactNetNewRow.holds Try.pinned (OpenSpec.ofChange fnExactNetNewSpec)

/-- ITS FALSE NEIGHBOUR: 'it returns false'. Refute it at one input. -/
def fnExactNetNewWrong : ChangeSpec := { name := "fnExactNetNew", fn := fun _ => fun
  | [d1, d2] => { results := [.lit (.bool false)], args := [d1, d2] }
  | _ => none }
def FnExactNetNewWrongFalsely : Prop := fnExactNetNewRow.holds Try.pinned (OpenSpec.ofChange fnExactNetNewWrong)

/-- 'laws.FnExactIsIdle': WHATEVER THE INPUT: true; the input reads as it did. -/
def fnExactIsIdleSpec : ChangeSpec := { name := "fnExactIsIdle", fn := fun _ => fun
  | [d] => { results := [.lit (.bool true)], args := [d] }
  | _ => none }
def fnExactIsIdleRow : OpenClaim := { program := "ytogapggfegplkaa", sum := "e00815646920102e80ad384278e99ce9a35cc0c4608f1727d7fe6c5e9547791b", func := "loop.example/g00984/laws.FnExactIsIdle", spec := "fnExactIsIdle", unfollowed := true, recurses := true, apart := false }
def FnExactIsIdleSaid : Prop := fnExactIsIdleRow.holds Try.pinned (OpenSpec.ofChange fnExactIsIdleSpec)

/-- ITS FALSE NEIGHBOUR: 'it returns false'. Refute it at one input. -/
def fnExactIsIdleWrong : ChangeSpec := { name := "fnExactIsIdle", fn := fun _ => fun
  | [d] => { results := [.lit (.bool false)], args := [d] }
  | _ => none }
def FnExactIsIdleWrongFalsely : Prop := fnExactIsIdleRow.holds Try.pinned (OpenSpec.ofChange fnExactIsIdleWrong)

/- THE SECOND FORM. 'bulk': how many values and letters a reading holds, each counted each time it is reached (what is shared counts as often as it is met; a slice's spare places count too). A statement '..UptoSaid' is the law's where the arguments, and the package variables that the reading takes, are together of bulk at most 1048576: NARROWER than '..Said'. Prove '..Said' where nothing that the law and all that it calls make is longer than what came in: it says more and counts as full. Else prove '..UptoSaid'. A law counts once. -/
mutual
def uptoBulk {H : Type} : DataW H → Nat
  | .lit (.string bytes) => bytes.length + 1
  | .lit _ => 1
  | .nil => 1
  | .ptr d => uptoBulk d + 1
  | .slice elems spare => uptoBulkAll elems + uptoBulkAll spare + 1
  | .agg parts => uptoBulkAll parts + 1
  | .iface _ d => uptoBulk d + 1
  | .map entries => uptoBulkEntries entries + 1
  | .held _ => 1
def uptoBulkAll {H : Type} : List (DataW H) → Nat
  | [] => 0
  | d :: r => uptoBulk d + uptoBulkAll r
def uptoBulkEntries {H : Type} : List (Lit × DataW H) → Nat
  | [] => 0
  | x :: r => uptoBulkEntry x + uptoBulkEntries r
def uptoBulkEntry {H : Type} : Lit × DataW H → Nat
  | (.string bytes, d) => bytes.length + uptoBulk d + 1
  | (_, d) => uptoBulk d + 1
 end
def uptoSmall : (H : Type) → List (DataW H) → Bool := fun _ ds => decide (uptoBulkAll ds ≤ 1048576)
def OpenSpec.upto (s : _root_.Go.ChangeSpec) : _root_.Go.OpenSpec := { _root_.Go.OpenSpec.ofChange s with cond := some uptoSmall }

/-- 'laws.FnOrders', WHERE WHAT IT READS IS OF BULK AT MOST 1048576: true; the input reads as it did. -/
def fnOrdersUptoRow : OpenClaim := { program := "ytogapggfegplkaa", sum := "e00815646920102e80ad384278e99ce9a35cc0c4608f1727d7fe6c5e9547791b", func := "loop.example/g00984/laws.FnOrders", spec := "fnOrders", unfollowed := true, recurses := true, apart := false, narrowed := true }
def FnOrdersUptoSaid : Prop := fnOrdersUptoRow.holds Try.pinned (OpenSpec.upto fnOrdersSpec)

/-- 'laws.FnExactOrderOf', WHERE WHAT IT READS IS OF BULK AT MOST 1048576: true; the input reads as it did. -/
def fnExactOrderOfUptoRow : OpenClaim := { program := "ytogapggfegplkaa", sum := "e00815646920102e80ad384278e99ce9a35cc0c4608f1727d7fe6c5e9547791b", func := "loop.example/g00984/laws.FnExactOrderOf", spec := "fnExactOrderOf", unfollowed := true, recurses := true, apart := false, narrowed := true }
def FnExactOrderOfUptoSaid : Prop := fnExactOrderOfUptoRow.holds Try.pinned (OpenSpec.upto fnExactOrderOfSpec)

/-- 'laws.FnExactHasCycle', WHERE WHAT IT READS IS OF BULK AT MOST 1048576: true; the input reads as it did. -/
def fnExactHasCycleUptoRow : OpenClaim := { program := "ytogapggfegplkaa", sum := "e00815646920102e80ad384278e99ce9a35cc0c4608f1727d7fe6c5e9547791b", func := "loop.example/g00984/laws.FnExactHasCycle", spec := "fnExactHasCycle", apart := false, narrowed := true }
def FnExactHasCycleUptoSaid : Prop := fnExactHasCycleUptoRow.holds Try.pinned (OpenSpec.upto fnExactHasCycleSpec)

/-- 'laws.FnCycles', WHERE WHAT IT READS IS OF BULK AT MOST 1048576: true; the input reads as it did. -/
def fnCyclesUptoRow : OpenClaim := { program := "ytogapggfegplkaa", sum := "e00815646920102e80ad384278e99ce9a35cc0c4608f1727d7fe6c5e9547791b", func := "loop.example/g00984/laws.FnCycles", spec := "fnCycles", unfollowed := true, recurses := true, apart := false, narrowed := true }
def FnCyclesUptoSaid : Prop := fnCyclesUptoRow.holds Try.pinned (OpenSpec.upto fnCyclesSpec)

/-- 'laws.FnExactShortestCycle', WHERE WHAT IT READS IS OF BULK AT MOST 1048576: true; the input reads as it did. -/
def fnExactShortestCycleUptoRow : OpenClaim := { program := "ytogapggfegplkaa", sum := "e00815646920102e80ad384278e99ce9a35cc0c4608f1727d7fe6c5e9547791b", func := "loop.example/g00984/laws.FnExactShortestCycle", spec := "fnExactShortestCycle", apart := false, narrowed := true }
def FnExactShortestCycleUptoSaid : Prop := fnExactShortestCycleUptoRow.holds Try.pinned (OpenSpec.upto fnExactShortestCycleSpec)

/-- 'laws.FnNewNets', WHERE WHAT IT READS IS OF BULK AT MOST 1048576: true; the input reads as it did. -/
def fnNewNetsUptoRow : OpenClaim := { program := "ytogapggfegplkaa", sum := "e00815646920102e80ad384278e99ce9a35cc0c4608f1727d7fe6c5e9547791b", func := "loop.example/g00984/laws.FnNewNets", spec := "fnNewNets", unfollowed := true, recurses := true, apart := false, narrowed := true }
def FnNewNetsUptoSaid : Prop := fnNewNetsUptoRow.holds Try.pinned (OpenSpec.upto fnNewNetsSpec)

/-- 'laws.FnExactClassesOk', WHERE WHAT IT READS IS OF BULK AT MOST 1048576: true; the input reads as it did. -/
def fnExactClassesOkUptoRow : OpenClaim := { program := "ytogapggfegplkaa", sum := "e00815646920102e80ad384278e99ce9a35cc0c4608f1727d7fe6c5e9547791b", func := "loop.example/g00984/laws.FnExactClassesOk", spec := "fnExactClassesOk", unfollowed := true, recurses := true, apart := false, narrowed := true }
def FnExactClassesOkUptoSaid : Prop := fnExactClassesOkUptoRow.holds Try.pinned (OpenSpec.upto fnExactClassesOkSpec)

/-- 'laws.FnExactSameNet', WHERE WHAT IT READS IS OF BULK AT MOST 1048576: true; the input reads as it did. -/
def fnExactSameNetUptoRow : OpenClaim := { program := "ytogapggfegplkaa", sum := "e00815646920102e80ad384278e99ce9a35cc0c4608f1727d7fe6c5e9547791b", func := "loop.example/g00984/laws.FnExactSameNet", spec := "fnExactSameNet", unfollowed := true, recurses := true, apart := false, narrowed := true }
def FnExactSameNetUptoSaid : Prop := fnExactSameNetUptoRow.holds Try.pinned (OpenSpec.upto fnExactSameNetSpec)

/-- 'laws.FnSends', WHERE WHAT IT READS IS OF BULK AT MOST 1048576: true; the input reads as it did. -/
def fnSendsUptoRow : OpenClaim := { program := "ytogapggfegplkaa", sum := "e00815646920102e80ad384278e99ce9a35cc0c4608f1727d7fe6c5e9547791b", func := "loop.example/g00984/laws.FnSends", spec := "fnSends", unfollowed := true, recurses := true, apart := false, narrowed := true }
def FnSendsUptoSaid : Prop := fnSendsUptoRow.holds Try.pinned (OpenSpec.upto fnSendsSpec)

/-- 'laws.FnExactNetOk', WHERE WHAT IT READS IS OF BULK AT MOST 1048576: true; the input reads as it did. -/
def fnExactNetOkUptoRow : OpenClaim := { program := "ytogapggfegplkaa", sum := "e00815646920102e80ad384278e99ce9a35cc0c4608f1727d7fe6c5e9547791b", func := "loop.example/g00984/laws.FnExactNetOk", spec := "fnExactNetOk", unfollowed := true, recurses := true, apart := false, narrowed := true }
def FnExactNetOkUptoSaid : Prop := fnExactNetOkUptoRow.holds Try.pinned (OpenSpec.upto fnExactNetOkSpec)

/-- 'laws.FnExactNetNew', WHERE WHAT IT READS IS OF BULK AT MOST 1048576: true; the input reads as it did. -/
def fnExactNetNewUptoRow : OpenClaim := { program := "ytogapggfegplkaa", sum := "e00815646920102e80ad384278e99ce9a35cc0c4608f1727d7fe6c5e9547791b", func := "loop.example/g00984/laws.FnExactNetNew", spec := "fnExactNetNew", unfollowed := true, recurses := true, apart := false, narrowed := true }
def FnExactNetNewUptoSaid : Prop := fnExactNetNewUptoRow.holds Try.pinned (OpenSpec.upto fnExactNetNewSpec)

/-- 'laws.FnExactIsIdle', WHERE WHAT IT READS IS OF BULK AT MOST 1048576: true; the input reads as it did. -/
def fnExactIsIdleUptoRow : OpenClaim := { program := "ytogapggfegplkaa", sum := "e00815646920102e80ad384278e99ce9a35cc0c4608f1727d7fe6c5e9547791b", func := "loop.example/g00984/laws.FnExactIsIdle", spec := "fnExactIsIdle", unfollowed := true, recurses := true, apart := false, narrowed := true }
def FnExactIsIdleUptoSaid : Prop := fnExactIsIdleUptoRow.holds Try.pinned (OpenSpec.upto fnExactIsIdleSpec)

end Rows
end Go.Proofs.Ytogapggfegplkaa
