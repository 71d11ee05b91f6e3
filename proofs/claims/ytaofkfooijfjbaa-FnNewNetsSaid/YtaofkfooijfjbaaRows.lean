/-
  No cell of these rows narrows 'for every input' (looked for: loops, veiled, ifaces, maps, wideKeys, modest, calm, conditions, laid).
  DERIVED. THE GIVEN ROWS OF THIS SEAT. 5 by the template 'for every input the law returns true; each argument reads behind the call as it read before'; 0 by the template 'total and deterministic' (their statements: YtaofkfooijfjbaaTotals.lean).
  GIVEN WITH THE SEED: the statements are not yours to turn. If you find one false, say at which input.
  Laid BY PROGRAM, IN A SANDBOX (cutbox-rows.mjs): the forced cells as the released guide's own fill.sh prints them over the translation 5be63e495e7d6f64… (all of the seat's roots in one cut). By AI agents, Wed Nov 11 2026. No macro, syntax, notation, axiom, sorry.
-/
import Derived.Test.YtaofkfooijfjbaaChecked
import GoSem.Claim
import GoSem.ClaimJoined
import GoSem.ClaimMapViews
import Derived.JoinedTies
import Derived.KernelRfl
namespace Go.Proofs.Ytaofkfooijfjbaa
/- THE CELL 'sum', in the pinned program and in every row, IS THE sha256 OF THE DUMP (.gsa) THAT YtaofkfooijfjbaaProg.lean LOADS. Nothing in Lean hashes anything: it is a label: what it is worth is what the hold of that sum in a sandbox is worth. -/
noncomputable def Try.pinned : Pinned := { name := "ytaofkfooijfjbaa", sum := "5be63e495e7d6f64d688802183f65c95b27c28902b862a74c24b8f87b51d62c9", checked := Try.checked }
namespace Rows
def none {H : Type} : Left H := { results := [], args := [] }

/-- 'laws.FnNewNets': WHATEVER THE INPUT: true; the input reads as it did. -/
def fnNewNetsSpec : ChangeSpec := { name := "fnNewNets", fn := fun _ => fun
  | [d] => { results := [.lit (.bool true)], args := [d] }
  | _ => none }
def fnNewNetsRow : OpenClaim := { program := "ytaofkfooijfjbaa", sum := "5be63e495e7d6f64d688802183f65c95b27c28902b862a74c24b8f87b51d62c9", func := "loop.example/g00984/laws.FnNewNets", spec := "fnNewNets", unfollowed := true, recurses := true, apart := false }
def FnNewNetsSaid : Prop := fnNewNetsRow.holds Try.pinned (OpenSpec.ofChange fnNewNetsSpec)

/-- ITS FALSE NEIGHBOUR: 'it returns false'. Refute it at one input. -/
def fnNewNetsWrong : ChangeSpec := { name := "fnNewNets", fn := fun _ => fun
  | [d] => { results := [.lit (.bool false)], args := [d] }
  | _ => none }
def FnNewNetsWrongFalsely : Prop := fnNewNetsRow.holds Try.pinned (OpenSpec.ofChange fnNewNetsWrong)

/-- 'laws.FnExactNetNew': WHATEVER THE INPUT: true; the input reads as it did. -/
def fnExactNetNewSpec : ChangeSpec := { name := "fnExactNetNew", fn := fun _ => fun
  | [d1, d2] => { results := [.lit (.bool true)], args := [d1, d2] }
  | _ => none }
def fnExactNetNewRow : OpenClaim := { program := "ytaofkfooijfjbaa", sum := "5be63e495e7d6f64d688802183f65c95b27c28902b862a74c24b8f87b51d62c9", func := "loop.example/g00984/laws.FnExactNetNew", spec := "fnExactNetNew", unfollowed := true, recurses := true, apart := false }
def FnExactNetNewSaid : Prop := fnExactNetNewRow.holds Try.pinned (OpenSpec.ofChange fnExactNetNewSpec)

/-- ITS FALSE NEIGHBOUR: 'it returns false'. Refute it at one input. -/
def fnExactNetNewWrong : ChangeSpec := { name := "fnExactNetNew", fn := fun _ => fun
  | [d1, d2] => { results := [.lit (.bool false)], args := [d1, d2] }
  | _ => none }
def FnExactNetNewWrongFalsely : Prop := fnExactNetNewRow.holds Try.pinned (OpenSpec.ofChange fnExactNetNewWrong)

/-- 'laws.FnExactEntering': WHATEVER THE INPUT: true; the input reads as it did. -/
def fnExactEnteringSpec : ChangeSpec := { name := "fnExactEntering", fn := fun _ => fun
  | [d] => { results := [.lit (.bool true)], args := [d] }
  | _ => none }
def fnExactEnteringRow : OpenClaim := { program := "ytaofkfooijfjbaa", sum := "5be63e495e7d6f64d688802183f65c95b27c28902b862a74c24b8f87b51d62c9", func := "loop.example/g00984/laws.FnExactEntering", spec := "fnExactEntering", unfollowed := true, recurses := true, apart := false }
def FnExactEnteringSaid : Prop := fnExactEnteringRow.holds Try.pinned (OpenSpec.ofChange fnExactEnteringSpec)

/-- ITS FALSE NEIGHBOUR: 'it returns false'. Refute it at one input. -/
def fnExactEnteringWrong : ChangeSpec := { name := "fnExactEntering", fn := fun _ => fun
  | [d] => { results := [.lit (.bool false)], args := [d] }
  | _ => none }
def FnExactEnteringWrongFalsely : Prop := fnExactEnteringRow.holds Try.pinned (OpenSpec.ofChange fnExactEnteringWrong)

/-- 'laws.FnExactCreditTable': WHATEVER THE INPUT: true; the input reads as it did. -/
def fnExactCreditTableSpec : ChangeSpec := { name := "fnExactCreditTable", fn := fun _ => fun
  | [d] => { results := [.lit (.bool true)], args := [d] }
  | _ => none }
def fnExactCreditTableRow : OpenClaim := { program := "ytaofkfooijfjbaa", sum := "5be63e495e7d6f64d688802183f65c95b27c28902b862a74c24b8f87b51d62c9", func := "loop.example/g00984/laws.FnExactCreditTable", spec := "fnExactCreditTable", unfollowed := true, recurses := true, apart := false }
def FnExactCreditTableSaid : Prop := fnExactCreditTableRow.holds Try.pinned (OpenSpec.ofChange fnExactCreditTableSpec)

/-- ITS FALSE NEIGHBOUR: 'it returns false'. Refute it at one input. -/
def fnExactCreditTableWrong : ChangeSpec := { name := "fnExactCreditTable", fn := fun _ => fun
  | [d] => { results := [.lit (.bool false)], args := [d] }
  | _ => none }
def FnExactCreditTableWrongFalsely : Prop := fnExactCreditTableRow.holds Try.pinned (OpenSpec.ofChange fnExactCreditTableWrong)

/-- 'laws.FnExactArrivedAt': WHATEVER THE INPUT: true; the input reads as it did. -/
def fnExactArrivedAtSpec : ChangeSpec := { name := "fnExactArrivedAt", fn := fun _ => fun
  | [d1, d2, d3] => { results := [.lit (.bool true)], args := [d1, d2, d3] }
  | _ => none }
def fnExactArrivedAtRow : OpenClaim := { program := "ytaofkfooijfjbaa", sum := "5be63e495e7d6f64d688802183f65c95b27c28902b862a74c24b8f87b51d62c9", func := "loop.example/g00984/laws.FnExactArrivedAt", spec := "fnExactArrivedAt", unfollowed := true, recurses := true, apart := false }
def FnExactArrivedAtSaid : Prop := fnExactArrivedAtRow.holds Try.pinned (OpenSpec.ofChange fnExactArrivedAtSpec)

/-- ITS FALSE NEIGHBOUR: 'it returns false'. Refute it at one input. -/
def fnExactArrivedAtWrong : ChangeSpec := { name := "fnExactArrivedAt", fn := fun _ => fun
  | [d1, d2, d3] => { results := [.lit (.bool false)], args := [d1, d2, d3] }
  | _ => none }
def FnExactArrivedAtWrongFalsely : Prop := fnExactArrivedAtRow.holds Try.pinned (OpenSpec.ofChange fnExactArrivedAtWrong)

/- THE SECOND FORM. 'bulk': how many values and letters a reading holds, each counted each time it is reached (what is shared counts as often as it is met; a slice's spare places count too). A statement '..UptoSaid' is the law's where the arguments, and the package variables that the reading takes, are together of bulk at most 1048576: NARROWER than '..Said'. Prove '..Said' where nothing that the law and all that it calls make is longer than what came in: it says more and counts as full. Else prove '..UptoSaid'. A law counts once. -/
mutual
def uptoBulk {H : Type} : DataW H → Nat
  | .lit (.string bytes) => bytes.length + 1
  | .lit _ => 1
  | .nil => 1
  | .ptr d => uptoBulk d + 1
  | .slice elems spare => uptoBulkAll elems + uptoBulkAll spare + 1
  | .agg parts => uptoBulkAll parts + 1
  | .iface _ d => uptoBulk d + 1
  | .map entries => uptoBulkEntries entries + 1
  | .held _ => 1
def uptoBulkAll {H : Type} : List (DataW H) → Nat
  | [] => 0
  | d :: r => uptoBulk d + uptoBulkAll r
def uptoBulkEntries {H : Type} : List (Lit × DataW H) → Nat
  | [] => 0
  | x :: r => uptoBulkEntry x + uptoBulkEntries r
def uptoBulkEntry {H : Type} : Lit × DataW H → Nat
  | (.string bytes, d) => bytes.length + uptoBulk d + 1
  | (_, d) => uptoBulk d + 1
 end
def uptoSmall : (H : Type) → List (DataW H) → Bool := fun _ ds => decide (uptoBulkAll ds ≤ 1048576)
def OpenSpec.upto (s : _root_.Go.ChangeSpec) : _root_.Go.OpenSpec := { _root_.Go.OpenSpec.ofChange s with cond := some uptoSmall }

/-- 'laws.FnNewNets', WHERE WHAT IT READS IS OF BULK AT MOST 1048576: true; the input reads as it did. -/
def fnNewNetsUptoRow : OpenClaim := { program := "ytaofkfooijfjbaa", sum := "5be63e495e7d6f64d688802183f65c95b27c28902b862a74c24b8f87b51d62c9", func := "loop.example/g00984/laws.FnNewNets", spec := "fnNewNets", unfollowed := true, recurses := true, apart := false, narrowed := true }
def FnNewNetsUptoSaid : Prop := fnNewNetsUptoRow.holds Try.pinned (OpenSpec.upto fnNewNetsSpec)

/-- 'laws.FnExactNetNew', WHERE WHAT IT READS IS OF BULK AT MOST 1048576: true; the input reads as it did. -/
def fnExactNetNewUptoRow : OpenClaim := { program := "ytaofkfooijfjbaa", sum := "5be63e495e7d6f64d688802183f65c95b27c28902b862a74c24b8f87b51d62c9", func := "loop.example/g00984/laws.FnExactNetNew", spec := "fnExactNetNew", unfollowed := true, recurses := true, apart := false, narrowed := true }
def FnExactNetNewUptoSaid : Prop := fnExactNetNewUptoRow.holds Try.pinned (OpenSpec.upto fnExactNetNewSpec)

/-- 'laws.FnExactEntering', WHERE WHAT IT READS IS OF BULK AT MOST 1048576: true; the input reads as it did. -/
def fnExactEnteringUptoRow : OpenClaim := { program := "ytaofkfooijfjbaa", sum := "5be63e495e7d6f64d688802183f65c95b27c28902b862a74c24b8f87b51d62c9", func := "loop.example/g00984/laws.FnExactEntering", spec := "fnExactEntering", unfollowed := true, recurses := true, apart := false, narrowed := true }
def FnExactEnteringUptoSaid : Prop := fnExactEnteringUptoRow.holds Try.pinned (OpenSpec.upto fnExactEnteringSpec)

/-- 'laws.FnExactCreditTable', WHERE WHAT IT READS IS OF BULK AT MOST 1048576: true; the input reads as it did. -/
def fnExactCreditTableUptoRow : OpenClaim := { program := "ytaofkfooijfjbaa", sum := "5be63e495e7d6f64d688802183f65c95b27c28902b862a74c24b8f87b51d62c9", func := "loop.example/g00984/laws.FnExactCreditTable", spec := "fnExactCreditTable", unfollowed := true, recurses := true, apart := false, narrowed := true }
def FnExactCreditTableUptoSaid : Prop := fnExactCreditTableUptoRow.holds Try.pinned (OpenSpec.upto fnExactCreditTableSpec)

/-- 'laws.FnExactArrivedAt', WHERE WHAT IT READS IS OF BULK AT MOST 1048576: true; the input reads as it did. -/
def fnExactArrivedAtUptoRow : OpenClaim := { program := "ytaofkfooijfjbaa", sum := "5be63e495e7d6f64d688802183f65c95b27c28902b862a74c24b8f87b51d62c9", func := "loop.example/g00984/laws.FnExactArrivedAt", spec := "fnExactArrivedAt", unfollowed := true, recurses := true, apart := false, narrowed := true }
def FnExactArrivedAtUptoSaid : Prop := fnExactArrivedAtUptoRow.holds Try.pinned (OpenSpec.upto fnExactArrivedAtSpec)

end Rows
end Go.Proofs.Ytaofkfooijfjbaa
