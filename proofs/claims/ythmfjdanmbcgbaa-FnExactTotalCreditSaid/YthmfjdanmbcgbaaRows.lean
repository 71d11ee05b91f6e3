/-
  No cell of these rows narrows 'for every input' (looked for: loops, veiled, ifaces, maps, wideKeys, modest, calm, conditions, laid).
  DERIVED. THE GIVEN ROWS OF THIS SEAT. 12 by the template 'for every input the law returns true; each argument reads behind the call as it read before'; 0 by the template 'total and deterministic' (their statements: YthmfjdanmbcgbaaTotals.lean).
  GIVEN WITH THE SEED: the statements are not yours to turn. If you find one false, say at which input.
  Laid BY PROGRAM, IN A SANDBOX (cutbox-rows.mjs): the forced cells as the released guide's own fill.sh prints them over the translation 334903cc15b75225… (all of the seat's roots in one cut). By AI agents, Wed Nov 11 2026. No macro, syntax, notation, axiom, sorry.
-/
import Derived.Test.YthmfjdanmbcgbaaChecked
import GoSem.Claim
import GoSem.ClaimJoined
import GoSem.ClaimMapViews
import Derived.JoinedTies
import Derived.KernelRfl
namespace Go.Proofs.Ythmfjdanmbcgbaa
/- THE CELL 'sum', in the pinned program and in every row, IS THE sha256 OF THE DUMP (.gsa) THAT YthmfjdanmbcgbaaProg.lean LOADS. Nothing in Lean hashes anything: it is a label: what it is worth is what the hold of that sum in a sandbox is worth. -/
noncomputable def Try.pinned : Pinned := { name := "ythmfjdanmbcgbaa", sum := "334903cc15b752253cbacc74ba5a4d0bf17f3f4b894bf5cac93729f10fe69504", checked := Try.checked }
namespace Rows
def none {H : Type} : Left H := { results := [], args := [] }

/-- 'laws.FnExactArrivedFlits': WHATEVER THE INPUT: true; the input reads as it did. -/
def fnExactArrivedFlitsSpec : ChangeSpec := { name := "fnExactArrivedFlits", fn := fun _ => fun
  | [d] => { results := [.lit (.bool true)], args := [d] }
  | _ => none }
def fnExactArrivedFlitsRow : OpenClaim := { program := "ythmfjdanmbcgbaa", sum := "334903cc15b752253cbacc74ba5a4d0bf17f3f4b894bf5cac93729f10fe69504", func := "loop.example/g00984/laws.FnExactArrivedFlits", spec := "fnExactArrivedFlits", unfollowed := true, recurses := true, apart := false }
def FnExactArrivedFlitsSaid : Prop := fnExactArrivedFlitsRow.holds Try.pinned (OpenSpec.ofChange fnExactArrivedFlitsSpec)

/-- ITS FALSE NEIGHBOUR: 'it returns false'. Refute it at one input. -/
def fnExactArrivedFlitsWrong : ChangeSpec := { name := "fnExactArrivedFlits", fn := fun _ => fun
  | [d] => { results := [.lit (.bool false)], args := [d] }
  | _ => none }
def FnExactArrivedFlitsWrongFalsely : Prop := fnExactArrivedFlitsRow.holds Try.pinned (OpenSpec.ofChange fnExactArrivedFlitsWrong)

/-- 'laws.FnExactFlitsInside': WHATEVER THE INPUT: true; the input reads as it did. -/
def fnExactFlitsInsideSpec : ChangeSpec := { name := "fnExactFlitsInside", fn := fun _ => fun
  | [d] => { results := [.lit (.bool true)], args := [d] }
  | _ => none }
def fnExactFlitsInsideRow : OpenClaim := { program := "ythmfjdanmbcgbaa", sum := "334903cc15b752253cbacc74ba5a4d0bf17f3f4b894bf5cac93729f10fe69504", func := "loop.example/g00984/laws.FnExactFlitsInside", spec := "fnExactFlitsInside", unfollowed := true, recurses := true, apart := false }
def FnExactFlitsInsideSaid : Prop := fnExactFlitsInsideRow.holds Try.pinned (OpenSpec.ofChange fnExactFlitsInsideSpec)

/-- ITS FALSE NEIGHBOUR: 'it returns false'. Refute it at one input. -/
def fnExactFlitsInsideWrong : ChangeSpec := { name := "fnExactFlitsInside", fn := fun _ => fun
  | [d] => { results := [.lit (.bool false)], args := [d] }
  | _ => none }
def FnExactFlitsInsideWrongFalsely : Prop := fnExactFlitsInsideRow.holds Try.pinned (OpenSpec.ofChange fnExactFlitsInsideWrong)

/-- 'laws.FnExactFlitsWaiting': WHATEVER THE INPUT: true; the input reads as it did. -/
def fnExactFlitsWaitingSpec : ChangeSpec := { name := "fnExactFlitsWaiting", fn := fun _ => fun
  | [d] => { results := [.lit (.bool true)], args := [d] }
  | _ => none }
def fnExactFlitsWaitingRow : OpenClaim := { program := "ythmfjdanmbcgbaa", sum := "334903cc15b752253cbacc74ba5a4d0bf17f3f4b894bf5cac93729f10fe69504", func := "loop.example/g00984/laws.FnExactFlitsWaiting", spec := "fnExactFlitsWaiting", unfollowed := true, recurses := true, apart := false }
def FnExactFlitsWaitingSaid : Prop := fnExactFlitsWaitingRow.holds Try.pinned (OpenSpec.ofChange fnExactFlitsWaitingSpec)

/-- ITS FALSE NEIGHBOUR: 'it returns false'. Refute it at one input. -/
def fnExactFlitsWaitingWrong : ChangeSpec := { name := "fnExactFlitsWaiting", fn := fun _ => fun
  | [d] => { results := [.lit (.bool false)], args := [d] }
  | _ => none }
def FnExactFlitsWaitingWrongFalsely : Prop := fnExactFlitsWaitingRow.holds Try.pinned (OpenSpec.ofChange fnExactFlitsWaitingWrong)

/-- 'laws.FnExactHasRoom': WHATEVER THE INPUT: true; the input reads as it did. -/
def fnExactHasRoomSpec : ChangeSpec := { name := "fnExactHasRoom", fn := fun _ => fun
  | [d1, d2, d3, d4] => { results := [.lit (.bool true)], args := [d1, d2, d3, d4] }
  | _ => none }
def fnExactHasRoomRow : OpenClaim := { program := "ythmfjdanmbcgbaa", sum := "334903cc15b752253cbacc74ba5a4d0bf17f3f4b894bf5cac93729f10fe69504", func := "loop.example/g00984/laws.FnExactHasRoom", spec := "fnExactHasRoom", unfollowed := true, recurses := true, apart := false }
def FnExactHasRoomSaid : Prop := fnExactHasRoomRow.holds Try.pinned (OpenSpec.ofChange fnExactHasRoomSpec)

/-- ITS FALSE NEIGHBOUR: 'it returns false'. Refute it at one input. -/
def fnExactHasRoomWrong : ChangeSpec := { name := "fnExactHasRoom", fn := fun _ => fun
  | [d1, d2, d3, d4] => { results := [.lit (.bool false)], args := [d1, d2, d3, d4] }
  | _ => none }
def FnExactHasRoomWrongFalsely : Prop := fnExactHasRoomRow.holds Try.pinned (OpenSpec.ofChange fnExactHasRoomWrong)

/-- 'laws.FnExactWantedPort': WHATEVER THE INPUT: true; the input reads as it did. -/
def fnExactWantedPortSpec : ChangeSpec := { name := "fnExactWantedPort", fn := fun _ => fun
  | [d1, d2, d3] => { results := [.lit (.bool true)], args := [d1, d2, d3] }
  | _ => none }
def fnExactWantedPortRow : OpenClaim := { program := "ythmfjdanmbcgbaa", sum := "334903cc15b752253cbacc74ba5a4d0bf17f3f4b894bf5cac93729f10fe69504", func := "loop.example/g00984/laws.FnExactWantedPort", spec := "fnExactWantedPort", unfollowed := true, recurses := true, apart := false }
def FnExactWantedPortSaid : Prop := fnExactWantedPortRow.holds Try.pinned (OpenSpec.ofChange fnExactWantedPortSpec)

/-- ITS FALSE NEIGHBOUR: 'it returns false'. Refute it at one input. -/
def fnExactWantedPortWrong : ChangeSpec := { name := "fnExactWantedPort", fn := fun _ => fun
  | [d1, d2, d3] => { results := [.lit (.bool false)], args := [d1, d2, d3] }
  | _ => none }
def FnExactWantedPortWrongFalsely : Prop := fnExactWantedPortRow.holds Try.pinned (OpenSpec.ofChange fnExactWantedPortWrong)

/-- 'laws.FnExactCreditOf': WHATEVER THE INPUT: true; the input reads as it did. -/
def fnExactCreditOfSpec : ChangeSpec := { name := "fnExactCreditOf", fn := fun _ => fun
  | [d1, d2, d3, d4] => { results := [.lit (.bool true)], args := [d1, d2, d3, d4] }
  | _ => none }
def fnExactCreditOfRow : OpenClaim := { program := "ythmfjdanmbcgbaa", sum := "334903cc15b752253cbacc74ba5a4d0bf17f3f4b894bf5cac93729f10fe69504", func := "loop.example/g00984/laws.FnExactCreditOf", spec := "fnExactCreditOf", unfollowed := true, recurses := true, apart := false }
def FnExactCreditOfSaid : Prop := fnExactCreditOfRow.holds Try.pinned (OpenSpec.ofChange fnExactCreditOfSpec)

/-- ITS FALSE NEIGHBOUR: 'it returns false'. Refute it at one input. -/
def fnExactCreditOfWrong : ChangeSpec := { name := "fnExactCreditOf", fn := fun _ => fun
  | [d1, d2, d3, d4] => { results := [.lit (.bool false)], args := [d1, d2, d3, d4] }
  | _ => none }
def FnExactCreditOfWrongFalsely : Prop := fnExactCreditOfRow.holds Try.pinned (OpenSpec.ofChange fnExactCreditOfWrong)

/-- 'laws.FnExactTotalCredit': WHATEVER THE INPUT: true; the input reads as it did. -/
def fnExactTotalCreditSpec : ChangeSpec := { name := "fnExactTotalCredit", fn := fun _ => fun
  | [d] => { results := [.lit (.bool true)], args := [d] }
  | _ => none }
def fnExactTotalCreditRow : OpenClaim := { program := "ythmfjdanmbcgbaa", sum := "334903cc15b752253cbacc74ba5a4d0bf17f3f4b894bf5cac93729f10fe69504", func := "loop.example/g00984/laws.FnExactTotalCredit", spec := "fnExactTotalCredit", unfollowed := true, recurses := true, apart := false }
def FnExactTotalCreditSaid : Prop := fnExactTotalCreditRow.holds Try.pinned (OpenSpec.ofChange fnExactTotalCreditSpec)

/-- ITS FALSE NEIGHBOUR: 'it returns false'. Refute it at one input. -/
def fnExactTotalCreditWrong : ChangeSpec := { name := "fnExactTotalCredit", fn := fun _ => fun
  | [d] => { results := [.lit (.bool false)], args := [d] }
  | _ => none }
def FnExactTotalCreditWrongFalsely : Prop := fnExactTotalCreditRow.holds Try.pinned (OpenSpec.ofChange fnExactTotalCreditWrong)

/-- 'laws.FnExactEntering': WHATEVER THE INPUT: true; the input reads as it did. -/
def fnExactEnteringSpec : ChangeSpec := { name := "fnExactEntering", fn := fun _ => fun
  | [d] => { results := [.lit (.bool true)], args := [d] }
  | _ => none }
def fnExactEnteringRow : OpenClaim := { program := "ythmfjdanmbcgbaa", sum := "334903cc15b752253cbacc74ba5a4d0bf17f3f4b894bf5cac93729f10fe69504", func := "loop.example/g00984/laws.FnExactEntering", spec := "fnExactEntering", unfollowed := true, recurses := true, apart := false }
def FnExactEnteringSaid : Prop := fnExactEnteringRow.holds Try.pinned (OpenSpec.ofChange fnExactEnteringSpec)

/-- ITS FALSE NEIGHBOUR: 'it returns false'. Refute it at one input. -/
def fnExactEnteringWrong : ChangeSpec := { name := "fnExactEntering", fn := fun _ => fun
  | [d] => { results := [.lit (.bool false)], args := [d] }
  | _ => none }
def FnExactEnteringWrongFalsely : Prop := fnExactEnteringRow.holds Try.pinned (OpenSpec.ofChange fnExactEnteringWrong)

/-- 'laws.FnExactIsRequest': WHATEVER THE INPUT: true; the input reads as it did. -/
def fnExactIsRequestSpec : ChangeSpec := { name := "fnExactIsRequest", fn := fun _ => fun
  | [d1, d2, d3, d4] => { results := [.lit (.bool true)], args := [d1, d2, d3, d4] }
  | _ => none }
def fnExactIsRequestRow : OpenClaim := { program := "ythmfjdanmbcgbaa", sum := "334903cc15b752253cbacc74ba5a4d0bf17f3f4b894bf5cac93729f10fe69504", func := "loop.example/g00984/laws.FnExactIsRequest", spec := "fnExactIsRequest", unfollowed := true, recurses := true, apart := false }
def FnExactIsRequestSaid : Prop := fnExactIsRequestRow.holds Try.pinned (OpenSpec.ofChange fnExactIsRequestSpec)

/-- ITS FALSE NEIGHBOUR: 'it returns false'. Refute it at one input. -/
def fnExactIsRequestWrong : ChangeSpec := { name := "fnExactIsRequest", fn := fun _ => fun
  | [d1, d2, d3, d4] => { results := [.lit (.bool false)], args := [d1, d2, d3, d4] }
  | _ => none }
def FnExactIsRequestWrongFalsely : Prop := fnExactIsRequestRow.holds Try.pinned (OpenSpec.ofChange fnExactIsRequestWrong)

/-- 'laws.FnExactCreditTable': WHATEVER THE INPUT: true; the input reads as it did. -/
def fnExactCreditTableSpec : ChangeSpec := { name := "fnExactCreditTable", fn := fun _ => fun
  | [d] => { results := [.lit (.bool true)], args := [d] }
  | _ => none }
def fnExactCreditTableRow : OpenClaim := { program := "ythmfjdanmbcgbaa", sum := "334903cc15b752253cbacc74ba5a4d0bf17f3f4b894bf5cac93729f10fe69504", func := "loop.example/g00984/laws.FnExactCreditTable", spec := "fnExactCreditTable", unfollowed := true, recurses := true, apart := false }
def FnExactCreditTableSaid : Prop := fnExactCreditTableRow.holds Try.pinned (OpenSpec.ofChange fnExactCreditTableSpec)

/-- ITS FALSE NEIGHBOUR: 'it returns false'. Refute it at one input. -/
def fnExactCreditTableWrong : ChangeSpec := { name := "fnExactCreditTable", fn := fun _ => fun
  | [d] => { results := [.lit (.bool false)], args := [d] }
  | _ => none }
def FnExactCreditTableWrongFalsely : Prop := fnExactCreditTableRow.holds Try.pinned (OpenSpec.ofChange fnExactCreditTableWrong)

/-- 'laws.FnExactArrivedAt': WHATEVER THE INPUT: true; the input reads as it did. -/
def fnExactArrivedAtSpec : ChangeSpec := { name := "fnExactArrivedAt", fn := fun _ => fun
  | [d1, d2, d3] => { results := [.lit (.bool true)], args := [d1, d2, d3] }
  | _ => none }
def fnExactArrivedAtRow : OpenClaim := { program := "ythmfjdanmbcgbaa", sum := "334903cc15b752253cbacc74ba5a4d0bf17f3f4b894bf5cac93729f10fe69504", func := "loop.example/g00984/laws.FnExactArrivedAt", spec := "fnExactArrivedAt", unfollowed := true, recurses := true, apart := false }
def FnExactArrivedAtSaid : Prop := fnExactArrivedAtRow.holds Try.pinned (OpenSpec.ofChange fnExactArrivedAtSpec)

/-- ITS FALSE NEIGHBOUR: 'it returns false'. Refute it at one input. -/
def fnExactArrivedAtWrong : ChangeSpec := { name := "fnExactArrivedAt", fn := fun _ => fun
  | [d1, d2, d3] => { results := [.lit (.bool false)], args := [d1, d2, d3] }
  | _ => none }
def FnExactArrivedAtWrongFalsely : Prop := fnExactArrivedAtRow.holds Try.pinned (OpenSpec.ofChange fnExactArrivedAtWrong)

/-- 'laws.FnCreditSum': WHATEVER THE INPUT: true; the input reads as it did. -/
def fnCreditSumSpec : ChangeSpec := { name := "fnCreditSum", fn := fun _ => fun
  | [d] => { results := [.lit (.bool true)], args := [d] }
  | _ => none }
def fnCreditSumRow : OpenClaim := { program := "ythmfjdanmbcgbaa", sum := "334903cc15b752253cbacc74ba5a4d0bf17f3f4b894bf5cac93729f10fe69504", func := "loop.example/g00984/laws.FnCreditSum", spec := "fnCreditSum", unfollowed := true, recurses := true, apart := false }
def FnCreditSumSaid : Prop := fnCreditSumRow.holds Try.pinned (OpenSpec.ofChange fnCreditSumSpec)

/-- ITS FALSE NEIGHBOUR: 'it returns false'. Refute it at one input. -/
def fnCreditSumWrong : ChangeSpec := { name := "fnCreditSum", fn := fun _ => fun
  | [d] => { results := [.lit (.bool false)], args := [d] }
  | _ => none }
def FnCreditSumWrongFalsely : Prop := fnCreditSumRow.holds Try.pinned (OpenSpec.ofChange fnCreditSumWrong)

/- THE SECOND FORM. 'bulk': how many values and letters a reading holds, each counted each time it is reached (what is shared counts as often as it is met; a slice's spare places count too). A statement '..UptoSaid' is the law's where the arguments, and the package variables that the reading takes, are together of bulk at most 1048576: NARROWER than '..Said'. Prove '..Said' where nothing that the law and all that it calls make is longer than what came in: it says more and counts as full. Else prove '..UptoSaid'. A law counts once. -/
mutual
def uptoBulk {H : Type} : DataW H → Nat
  | .lit (.string bytes) => bytes.length + 1
  | .lit _ => 1
  | .nil => 1
  | .ptr d => uptoBulk d + 1
  | .slice elems spare => uptoBulkAll elems + uptoBulkAll spare + 1
  | .agg parts => uptoBulkAll parts + 1
  | .iface _ d => uptoBulk d + 1
  | .map entries => uptoBulkEntries entries + 1
  | .held _ => 1
def uptoBulkAll {H : Type} : List (DataW H) → Nat
  | [] => 0
  | d :: r => uptoBulk d + uptoBulkAll r
def uptoBulkEntries {H : Type} : List (Lit × DataW H) → Nat
  | [] => 0
  | x :: r => uptoBulkEntry x + uptoBulkEntries r
def uptoBulkEntry {H : Type} : Lit × DataW H → Nat
  | (.string bytes, d) => bytes.length + uptoBulk d + 1
  | (_, d) => uptoBulk d + 1
 end
def uptoSmall : (H : Type) → List (DataW H) → Bool := fun _ ds => decide (uptoBulkAll ds ≤ 1048576)
def OpenSpec.upto (s : _root_.Go.ChangeSpec) : _root_.Go.OpenSpec := { _root_.Go.OpenSpec.ofChange s with cond := some uptoSmall }

/-- 'laws.FnExactArrivedFlits', WHERE WHAT IT READS IS OF BULK AT MOST 1048576: true; the input reads as it did. -/
def fnExactArrivedFlitsUptoRow : OpenClaim := { program := "ythmfjdanmbcgbaa", sum := "334903cc15b752253cbacc74ba5a4d0bf17f3f4b894bf5cac93729f10fe69504", func := "loop.example/g00984/laws.FnExactArrivedFlits", spec := "fnExactArrivedFlits", unfollowed := true, recurses := true, apart := false, narrowed := true }
def FnExactArrivedFlitsUptoSaid : Prop := fnExactArrivedFlitsUptoRow.holds Try.pinned (OpenSpec.upto fnExactArrivedFlitsSpec)

/-- 'laws.FnExactFlitsInside', WHERE WHAT IT READS IS OF BULK AT MOST 1048576: true; the input reads as it did. -/
def fnExactFlitsInsideUptoRow : OpenClaim := { program := "ythmfjdanmbcgbaa", sum := "334903cc15b752253cbacc74ba5a4d0bf17f3f4b894bf5cac93729f10fe69504", func := "loop.example/g00984/laws.FnExactFlitsInside", spec := "fnExactFlitsInside", unfollowed := true, recurses := true, apart := false, narrowed := true }
def FnExactFlitsInsideUptoSaid : Prop := fnExactFlitsInsideUptoRow.holds Try.pinned (OpenSpec.upto fnExactFlitsInsideSpec)

/-- 'laws.FnExactFlitsWaiting', WHERE WHAT IT READS IS OF BULK AT MOST 1048576: true; the input reads as it did. -/
def fnExactFlitsWaitingUptoRow : OpenClaim := { program := "ythmfjdanmbcgbaa", sum := "334903cc15b752253cbacc74ba5a4d0bf17f3f4b894bf5cac93729f10fe69504", func := "loop.example/g00984/laws.FnExactFlitsWaiting", spec := "fnExactFlitsWaiting", unfollowed := true, recurses := true, apart := false, narrowed := true }
def FnExactFlitsWaitingUptoSaid : Prop := fnExactFlitsWaitingUptoRow.holds Try.pinned (OpenSpec.upto fnExactFlitsWaitingSpec)

/-- 'laws.FnExactHasRoom', WHERE WHAT IT READS IS OF BULK AT MOST 1048576: true; the input reads as it did. -/
def fnExactHasRoomUptoRow : OpenClaim := { program := "ythmfjdanmbcgbaa", sum := "334903cc15b752253cbacc74ba5a4d0bf17f3f4b894bf5cac93729f10fe69504", func := "loop.example/g00984/laws.FnExactHasRoom", spec := "fnExactHasRoom", unfollowed := true, recurses := true, apart := false, narrowed := true }
def FnExactHasRoomUptoSaid : Prop := fnExactHasRoomUptoRow.holds Try.pinned (OpenSpec.upto fnExactHasRoomSpec)

/-- 'laws.FnExactWantedPort', WHERE WHAT IT READS IS OF BULK AT MOST 1048576: true; the input reads as it did. -/
def fnExactWantedPortUptoRow : OpenClaim := { program := "ythmfjdanmbcgbaa", sum := "334903cc15b752253cbacc74ba5a4d0bf17f3f4b894bf5cac93729f10fe69504", func := "loop.example/g00984/laws.FnExactWantedPort", spec := "fnExactWantedPort", unfollowed := true, recurses := true, apart := false, narrowed := true }
def FnExactWantedPortUptoSaid : Prop := fnExactWantedPortUptoRow.holds Try.pinned (OpenSpec.upto fnExactWantedPortSpec)

/-- 'laws.FnExactCreditOf', WHERE WHAT IT READS IS OF BULK AT MOST 1048576: true; the input reads as it did. -/
def fnExactCreditOfUptoRow : OpenClaim := { program := "ythmfjdanmbcgbaa", sum := "334903cc15b752253cbacc74ba5a4d0bf17f3f4b894bf5cac93729f10fe69504", func := "loop.example/g00984/laws.FnExactCreditOf", spec := "fnExactCreditOf", unfollowed := true, recurses := true, apart := false, narrowed := true }
def FnExactCreditOfUptoSaid : Prop := fnExactCreditOfUptoRow.holds Try.pinned (OpenSpec.upto fnExactCreditOfSpec)

/-- 'laws.FnExactTotalCredit', WHERE WHAT IT READS IS OF BULK AT MOST 1048576: true; the input reads as it did. -/
def fnExactTotalCreditUptoRow : OpenClaim := { program := "ythmfjdanmbcgbaa", sum := "334903cc15b752253cbacc74ba5a4d0bf17f3f4b894bf5cac93729f10fe69504", func := "loop.example/g00984/laws.FnExactTotalCredit", spec := "fnExactTotalCredit", unfollowed := true, recurses := true, apart := false, narrowed := true }
def FnExactTotalCreditUptoSaid : Prop := fnExactTotalCreditUptoRow.holds Try.pinned (OpenSpec.upto fnExactTotalCreditSpec)

/-- 'laws.FnExactEntering', WHERE WHAT IT READS IS OF BULK AT MOST 1048576: true; the input reads as it did. -/
def fnExactEnteringUptoRow : OpenClaim := { program := "ythmfjdanmbcgbaa", sum := "334903cc15b752253cbacc74ba5a4d0bf17f3f4b894bf5cac93729f10fe69504", func := "loop.example/g00984/laws.FnExactEntering", spec := "fnExactEntering", unfollowed := true, recurses := true, apart := false, narrowed := true }
def FnExactEnteringUptoSaid : Prop := fnExactEnteringUptoRow.holds Try.pinned (OpenSpec.upto fnExactEnteringSpec)

/-- 'laws.FnExactIsRequest', WHERE WHAT IT READS IS OF BULK AT MOST 1048576: true; the input reads as it did. -/
def fnExactIsRequestUptoRow : OpenClaim := { program := "ythmfjdanmbcgbaa", sum := "334903cc15b752253cbacc74ba5a4d0bf17f3f4b894bf5cac93729f10fe69504", func := "loop.example/g00984/laws.FnExactIsRequest", spec := "fnExactIsRequest", unfollowed := true, recurses := true, apart := false, narrowed := true }
def FnExactIsRequestUptoSaid : Prop := fnExactIsRequestUptoRow.holds Try.pinned (OpenSpec.upto fnExactIsRequestSpec)

/-- 'laws.FnExactCreditTable', WHERE WHAT IT READS IS OF BULK AT MOST 1048576: true; the input reads as it did. -/
def fnExactCreditTableUptoRow : OpenClaim := { program := "ythmfjdanmbcgbaa", sum := "334903cc15b752253cbacc74ba5a4d0bf17f3f4b894bf5cac93729f10fe69504", func := "loop.example/g00984/laws.FnExactCreditTable", spec := "fnExactCreditTable", unfollowed := true, recurses := true, apart := false, narrowed := true }
def FnExactCreditTableUptoSaid : Prop := fnExactCreditTableUptoRow.holds Try.pinned (OpenSpec.upto fnExactCreditTableSpec)

/-- 'laws.FnExactArrivedAt', WHERE WHAT IT READS IS OF BULK AT MOST 1048576: true; the input reads as it did. -/
def fnExactArrivedAtUptoRow : OpenClaim := { program := "ythmfjdanmbcgbaa", sum := "334903cc15b752253cbacc74ba5a4d0bf17f3f4b894bf5cac93729f10fe69504", func := "loop.example/g00984/laws.FnExactArrivedAt", spec := "fnExactArrivedAt", unfollowed := true, recurses := true, apart := false, narrowed := true }
def FnExactArrivedAtUptoSaid : Prop := fnExactArrivedAtUptoRow.holds Try.pinned (OpenSpec.upto fnExactArrivedAtSpec)

/-- 'laws.FnCreditSum', WHERE WHAT IT READS IS OF BULK AT MOST 1048576: true; the input reads as it did. -/
def fnCreditSumUptoRow : OpenClaim := { program := "ythmfjdanmbcgbaa", sum := "334903cc15b752253cbacc74ba5a4d0bf17f3f4b894bf5cac93729f10fe69504", func := "loop.example/g00984/laws.FnCreditSum", spec := "fnCreditSum", unfollowed := true, recurses := true, apart := false, narrowed := true }
def FnCreditSumUptoSaid : Prop := fnCreditSumUptoRow.holds Try.pinned (OpenSpec.upto fnCreditSumSpec)

end Rows
end Go.Proofs.Ythmfjdanmbcgbaa
