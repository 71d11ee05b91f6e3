/-
  No cell of these rows narrows 'for every input' (looked for: loops, veiled, ifaces, maps, wideKeys, modest, calm, conditions, laid).
  DERIVED. THE GIVEN ROWS OF THIS SEAT. 12 by the template 'for every input the law returns true; each argument reads behind the call as it read before'; 0 by the template 'total and deterministic' (their statements: YtlfmckdhmklgpaaTotals.lean).
  GIVEN WITH THE SEED: the statements are not yours to turn. If you find one false, say at which input.
  Laid BY PROGRAM, IN A SANDBOX (cutbox-rows.mjs): the forced cells as the released guide's own fill.sh prints them over the translation 43fd1594010b1af7… (all of the seat's roots in one cut). By AI agents, Wed Nov 11 2026. No macro, syntax, notation, axiom, sorry.
-/
import Derived.Test.YtlfmckdhmklgpaaChecked
import GoSem.Claim
import GoSem.ClaimJoined
import GoSem.ClaimMapViews
import Derived.JoinedTies
import Derived.KernelRfl
namespace Go.Proofs.Ytlfmckdhmklgpaa
/- THE CELL 'sum', in the pinned program and in every row, IS THE sha256 OF THE DUMP (.gsa) THAT YtlfmckdhmklgpaaProg.lean LOADS. Nothing in Lean hashes anything: it is a label: what it is worth is what the hold of that sum in a sandbox is worth. -/
noncomputable def Try.pinned : Pinned := { name := "ytlfmckdhmklgpaa", sum := "43fd1594010b1af7b500a61edf0c95aed03efe975684b72ce37d079ab62f7218", checked := Try.checked }
namespace Rows
def none {H : Type} : Left H := { results := [], args := [] }

/-- 'laws.FnExactRingHops': WHATEVER THE INPUT: true; the input reads as it did. -/
def fnExactRingHopsSpec : ChangeSpec := { name := "fnExactRingHops", fn := fun _ => fun
  | [d1, d2, d3, d4] => { results := [.lit (.bool true)], args := [d1, d2, d3, d4] }
  | _ => none }
def fnExactRingHopsRow : OpenClaim := { program := "ytlfmckdhmklgpaa", sum := "43fd1594010b1af7b500a61edf0c95aed03efe975684b72ce37d079ab62f7218", func := "loop.example/g00984/laws.FnExactRingHops", spec := "fnExactRingHops", apart := false }
def FnExactRingHopsSaid : Prop := fnExactRingHopsRow.holds Try.pinned (OpenSpec.ofChange fnExactRingHopsSpec)

/-- ITS FALSE NEIGHBOUR: 'it returns false'. Refute it at one input. -/
def fnExactRingHopsWrong : ChangeSpec := { name := "fnExactRingHops", fn := fun _ => fun
  | [d1, d2, d3, d4] => { results := [.lit (.bool false)], args := [d1, d2, d3, d4] }
  | _ => none }
def FnExactRingHopsWrongFalsely : Prop := fnExactRingHopsRow.holds Try.pinned (OpenSpec.ofChange fnExactRingHopsWrong)

/-- 'laws.FnExactNumberPackets': WHATEVER THE INPUT: true; the input reads as it did. -/
def fnExactNumberPacketsSpec : ChangeSpec := { name := "fnExactNumberPackets", fn := fun _ => fun
  | [d] => { results := [.lit (.bool true)], args := [d] }
  | _ => none }
def fnExactNumberPacketsRow : OpenClaim := { program := "ytlfmckdhmklgpaa", sum := "43fd1594010b1af7b500a61edf0c95aed03efe975684b72ce37d079ab62f7218", func := "loop.example/g00984/laws.FnExactNumberPackets", spec := "fnExactNumberPackets", apart := false }
def FnExactNumberPacketsSaid : Prop := fnExactNumberPacketsRow.holds Try.pinned (OpenSpec.ofChange fnExactNumberPacketsSpec)

/-- ITS FALSE NEIGHBOUR: 'it returns false'. Refute it at one input. -/
def fnExactNumberPacketsWrong : ChangeSpec := { name := "fnExactNumberPackets", fn := fun _ => fun
  | [d] => { results := [.lit (.bool false)], args := [d] }
  | _ => none }
def FnExactNumberPacketsWrongFalsely : Prop := fnExactNumberPacketsRow.holds Try.pinned (OpenSpec.ofChange fnExactNumberPacketsWrong)

/-- 'laws.FnExactClassOnly': WHATEVER THE INPUT: true; the input reads as it did. -/
def fnExactClassOnlySpec : ChangeSpec := { name := "fnExactClassOnly", fn := fun _ => fun
  | [d1, d2] => { results := [.lit (.bool true)], args := [d1, d2] }
  | _ => none }
def fnExactClassOnlyRow : OpenClaim := { program := "ytlfmckdhmklgpaa", sum := "43fd1594010b1af7b500a61edf0c95aed03efe975684b72ce37d079ab62f7218", func := "loop.example/g00984/laws.FnExactClassOnly", spec := "fnExactClassOnly", apart := false }
def FnExactClassOnlySaid : Prop := fnExactClassOnlyRow.holds Try.pinned (OpenSpec.ofChange fnExactClassOnlySpec)

/-- ITS FALSE NEIGHBOUR: 'it returns false'. Refute it at one input. -/
def fnExactClassOnlyWrong : ChangeSpec := { name := "fnExactClassOnly", fn := fun _ => fun
  | [d1, d2] => { results := [.lit (.bool false)], args := [d1, d2] }
  | _ => none }
def FnExactClassOnlyWrongFalsely : Prop := fnExactClassOnlyRow.holds Try.pinned (OpenSpec.ofChange fnExactClassOnlyWrong)

/-- 'laws.FnFlits': WHATEVER THE INPUT: true; the input reads as it did. -/
def fnFlitsSpec : ChangeSpec := { name := "fnFlits", fn := fun _ => fun
  | [d] => { results := [.lit (.bool true)], args := [d] }
  | _ => none }
def fnFlitsRow : OpenClaim := { program := "ytlfmckdhmklgpaa", sum := "43fd1594010b1af7b500a61edf0c95aed03efe975684b72ce37d079ab62f7218", func := "loop.example/g00984/laws.FnFlits", spec := "fnFlits", apart := false }
def FnFlitsSaid : Prop := fnFlitsRow.holds Try.pinned (OpenSpec.ofChange fnFlitsSpec)

/-- ITS FALSE NEIGHBOUR: 'it returns false'. Refute it at one input. -/
def fnFlitsWrong : ChangeSpec := { name := "fnFlits", fn := fun _ => fun
  | [d] => { results := [.lit (.bool false)], args := [d] }
  | _ => none }
def FnFlitsWrongFalsely : Prop := fnFlitsRow.holds Try.pinned (OpenSpec.ofChange fnFlitsWrong)

/-- 'laws.FnExactTableFor': WHATEVER THE INPUT: true; the input reads as it did. -/
def fnExactTableForSpec : ChangeSpec := { name := "fnExactTableFor", fn := fun _ => fun
  | [d1, d2] => { results := [.lit (.bool true)], args := [d1, d2] }
  | _ => none }
def fnExactTableForRow : OpenClaim := { program := "ytlfmckdhmklgpaa", sum := "43fd1594010b1af7b500a61edf0c95aed03efe975684b72ce37d079ab62f7218", func := "loop.example/g00984/laws.FnExactTableFor", spec := "fnExactTableFor", apart := false }
def FnExactTableForSaid : Prop := fnExactTableForRow.holds Try.pinned (OpenSpec.ofChange fnExactTableForSpec)

/-- ITS FALSE NEIGHBOUR: 'it returns false'. Refute it at one input. -/
def fnExactTableForWrong : ChangeSpec := { name := "fnExactTableFor", fn := fun _ => fun
  | [d1, d2] => { results := [.lit (.bool false)], args := [d1, d2] }
  | _ => none }
def FnExactTableForWrongFalsely : Prop := fnExactTableForRow.holds Try.pinned (OpenSpec.ofChange fnExactTableForWrong)

/-- 'laws.FnExactFlitsOf': WHATEVER THE INPUT: true; the input reads as it did. -/
def fnExactFlitsOfSpec : ChangeSpec := { name := "fnExactFlitsOf", fn := fun _ => fun
  | [d1, d2] => { results := [.lit (.bool true)], args := [d1, d2] }
  | _ => none }
def fnExactFlitsOfRow : OpenClaim := { program := "ytlfmckdhmklgpaa", sum := "43fd1594010b1af7b500a61edf0c95aed03efe975684b72ce37d079ab62f7218", func := "loop.example/g00984/laws.FnExactFlitsOf", spec := "fnExactFlitsOf", apart := false }
def FnExactFlitsOfSaid : Prop := fnExactFlitsOfRow.holds Try.pinned (OpenSpec.ofChange fnExactFlitsOfSpec)

/-- ITS FALSE NEIGHBOUR: 'it returns false'. Refute it at one input. -/
def fnExactFlitsOfWrong : ChangeSpec := { name := "fnExactFlitsOf", fn := fun _ => fun
  | [d1, d2] => { results := [.lit (.bool false)], args := [d1, d2] }
  | _ => none }
def FnExactFlitsOfWrongFalsely : Prop := fnExactFlitsOfRow.holds Try.pinned (OpenSpec.ofChange fnExactFlitsOfWrong)

/-- 'laws.FnExactIsCycle': WHATEVER THE INPUT: true; the input reads as it did. -/
def fnExactIsCycleSpec : ChangeSpec := { name := "fnExactIsCycle", fn := fun _ => fun
  | [d1, d2] => { results := [.lit (.bool true)], args := [d1, d2] }
  | _ => none }
def fnExactIsCycleRow : OpenClaim := { program := "ytlfmckdhmklgpaa", sum := "43fd1594010b1af7b500a61edf0c95aed03efe975684b72ce37d079ab62f7218", func := "loop.example/g00984/laws.FnExactIsCycle", spec := "fnExactIsCycle", apart := false }
def FnExactIsCycleSaid : Prop := fnExactIsCycleRow.holds Try.pinned (OpenSpec.ofChange fnExactIsCycleSpec)

/-- ITS FALSE NEIGHBOUR: 'it returns false'. Refute it at one input. -/
def fnExactIsCycleWrong : ChangeSpec := { name := "fnExactIsCycle", fn := fun _ => fun
  | [d1, d2] => { results := [.lit (.bool false)], args := [d1, d2] }
  | _ => none }
def FnExactIsCycleWrongFalsely : Prop := fnExactIsCycleRow.holds Try.pinned (OpenSpec.ofChange fnExactIsCycleWrong)

/-- 'laws.FnExactWholePackets': WHATEVER THE INPUT: true; the input reads as it did. -/
def fnExactWholePacketsSpec : ChangeSpec := { name := "fnExactWholePackets", fn := fun _ => fun
  | [d] => { results := [.lit (.bool true)], args := [d] }
  | _ => none }
def fnExactWholePacketsRow : OpenClaim := { program := "ytlfmckdhmklgpaa", sum := "43fd1594010b1af7b500a61edf0c95aed03efe975684b72ce37d079ab62f7218", func := "loop.example/g00984/laws.FnExactWholePackets", spec := "fnExactWholePackets", apart := false }
def FnExactWholePacketsSaid : Prop := fnExactWholePacketsRow.holds Try.pinned (OpenSpec.ofChange fnExactWholePacketsSpec)

/-- ITS FALSE NEIGHBOUR: 'it returns false'. Refute it at one input. -/
def fnExactWholePacketsWrong : ChangeSpec := { name := "fnExactWholePackets", fn := fun _ => fun
  | [d] => { results := [.lit (.bool false)], args := [d] }
  | _ => none }
def FnExactWholePacketsWrongFalsely : Prop := fnExactWholePacketsRow.holds Try.pinned (OpenSpec.ofChange fnExactWholePacketsWrong)

/-- 'laws.FnReach': WHATEVER THE INPUT: true; the input reads as it did. -/
def fnReachSpec : ChangeSpec := { name := "fnReach", fn := fun _ => fun
  | [d] => { results := [.lit (.bool true)], args := [d] }
  | _ => none }
def fnReachRow : OpenClaim := { program := "ytlfmckdhmklgpaa", sum := "43fd1594010b1af7b500a61edf0c95aed03efe975684b72ce37d079ab62f7218", func := "loop.example/g00984/laws.FnReach", spec := "fnReach", apart := false }
def FnReachSaid : Prop := fnReachRow.holds Try.pinned (OpenSpec.ofChange fnReachSpec)

/-- ITS FALSE NEIGHBOUR: 'it returns false'. Refute it at one input. -/
def fnReachWrong : ChangeSpec := { name := "fnReach", fn := fun _ => fun
  | [d] => { results := [.lit (.bool false)], args := [d] }
  | _ => none }
def FnReachWrongFalsely : Prop := fnReachRow.holds Try.pinned (OpenSpec.ofChange fnReachWrong)

/-- 'laws.FnExactStepsBetween': WHATEVER THE INPUT: true; the input reads as it did. -/
def fnExactStepsBetweenSpec : ChangeSpec := { name := "fnExactStepsBetween", fn := fun _ => fun
  | [d1, d2, d3] => { results := [.lit (.bool true)], args := [d1, d2, d3] }
  | _ => none }
def fnExactStepsBetweenRow : OpenClaim := { program := "ytlfmckdhmklgpaa", sum := "43fd1594010b1af7b500a61edf0c95aed03efe975684b72ce37d079ab62f7218", func := "loop.example/g00984/laws.FnExactStepsBetween", spec := "fnExactStepsBetween", apart := false }
def FnExactStepsBetweenSaid : Prop := fnExactStepsBetweenRow.holds Try.pinned (OpenSpec.ofChange fnExactStepsBetweenSpec)

/-- ITS FALSE NEIGHBOUR: 'it returns false'. Refute it at one input. -/
def fnExactStepsBetweenWrong : ChangeSpec := { name := "fnExactStepsBetween", fn := fun _ => fun
  | [d1, d2, d3] => { results := [.lit (.bool false)], args := [d1, d2, d3] }
  | _ => none }
def FnExactStepsBetweenWrongFalsely : Prop := fnExactStepsBetweenRow.holds Try.pinned (OpenSpec.ofChange fnExactStepsBetweenWrong)

/-- 'laws.FnExactSplitClasses': WHATEVER THE INPUT: true; the input reads as it did. -/
def fnExactSplitClassesSpec : ChangeSpec := { name := "fnExactSplitClasses", fn := fun _ => fun
  | [d] => { results := [.lit (.bool true)], args := [d] }
  | _ => none }
def fnExactSplitClassesRow : OpenClaim := { program := "ytlfmckdhmklgpaa", sum := "43fd1594010b1af7b500a61edf0c95aed03efe975684b72ce37d079ab62f7218", func := "loop.example/g00984/laws.FnExactSplitClasses", spec := "fnExactSplitClasses", apart := false }
def FnExactSplitClassesSaid : Prop := fnExactSplitClassesRow.holds Try.pinned (OpenSpec.ofChange fnExactSplitClassesSpec)

/-- ITS FALSE NEIGHBOUR: 'it returns false'. Refute it at one input. -/
def fnExactSplitClassesWrong : ChangeSpec := { name := "fnExactSplitClasses", fn := fun _ => fun
  | [d] => { results := [.lit (.bool false)], args := [d] }
  | _ => none }
def FnExactSplitClassesWrongFalsely : Prop := fnExactSplitClassesRow.holds Try.pinned (OpenSpec.ofChange fnExactSplitClassesWrong)

/-- 'laws.FnRanksXY': WHATEVER THE INPUT: true; the input reads as it did. -/
def fnRanksXYSpec : ChangeSpec := { name := "fnRanksXY", fn := fun _ => fun
  | [d] => { results := [.lit (.bool true)], args := [d] }
  | _ => none }
def fnRanksXYRow : OpenClaim := { program := "ytlfmckdhmklgpaa", sum := "43fd1594010b1af7b500a61edf0c95aed03efe975684b72ce37d079ab62f7218", func := "loop.example/g00984/laws.FnRanksXY", spec := "fnRanksXY", apart := false }
def FnRanksXYSaid : Prop := fnRanksXYRow.holds Try.pinned (OpenSpec.ofChange fnRanksXYSpec)

/-- ITS FALSE NEIGHBOUR: 'it returns false'. Refute it at one input. -/
def fnRanksXYWrong : ChangeSpec := { name := "fnRanksXY", fn := fun _ => fun
  | [d] => { results := [.lit (.bool false)], args := [d] }
  | _ => none }
def FnRanksXYWrongFalsely : Prop := fnRanksXYRow.holds Try.pinned (OpenSpec.ofChange fnRanksXYWrong)

/- THE SECOND FORM. 'bulk': how many values and letters a reading holds, each counted each time it is reached (what is shared counts as often as it is met; a slice's spare places count too). A statement '..UptoSaid' is the law's where the arguments, and the package variables that the reading takes, are together of bulk at most 1048576: NARROWER than '..Said'. Prove '..Said' where nothing that the law and all that it calls make is longer than what came in: it says more and counts as full. Else prove '..UptoSaid'. A law counts once. -/
mutual
def uptoBulk {H : Type} : DataW H → Nat
  | .lit (.string bytes) => bytes.length + 1
  | .lit _ => 1
  | .nil => 1
  | .ptr d => uptoBulk d + 1
  | .slice elems spare => uptoBulkAll elems + uptoBulkAll spare + 1
  | .agg parts => uptoBulkAll parts + 1
  | .iface _ d => uptoBulk d + 1
  | .map entries => uptoBulkEntries entries + 1
  | .held _ => 1
def uptoBulkAll {H : Type} : List (DataW H) → Nat
  | [] => 0
  | d :: r => uptoBulk d + uptoBulkAll r
def uptoBulkEntries {H : Type} : List (Lit × DataW H) → Nat
  | [] => 0
  | x :: r => uptoBulkEntry x + uptoBulkEntries r
def uptoBulkEntry {H : Type} : Lit × DataW H → Nat
  | (.string bytes, d) => bytes.length + uptoBulk d + 1
  | (_, d) => uptoBulk d + 1
 end
def uptoSmall : (H : Type) → List (DataW H) → Bool := fun _ ds => decide (uptoBulkAll ds ≤ 1048576)
def OpenSpec.upto (s : _root_.Go.ChangeSpec) : _root_.Go.OpenSpec := { _root_.Go.OpenSpec.ofChange s with cond := some uptoSmall }

/-- 'laws.FnExactRingHops', WHERE WHAT IT READS IS OF BULK AT MOST 1048576: true; the input reads as it did. -/
def fnExactRingHopsUptoRow : OpenClaim := { program := "ytlfmckdhmklgpaa", sum := "43fd1594010b1af7b500a61edf0c95aed03efe975684b72ce37d079ab62f7218", func := "loop.example/g00984/laws.FnExactRingHops", spec := "fnExactRingHops", apart := false, narrowed := true }
def FnExactRingHopsUptoSaid : Prop := fnExactRingHopsUptoRow.holds Try.pinned (OpenSpec.upto fnExactRingHopsSpec)

/-- 'laws.FnExactNumberPackets', WHERE WHAT IT READS IS OF BULK AT MOST 1048576: true; the input reads as it did. -/
def fnExactNumberPacketsUptoRow : OpenClaim := { program := "ytlfmckdhmklgpaa", sum := "43fd1594010b1af7b500a61edf0c95aed03efe975684b72ce37d079ab62f7218", func := "loop.example/g00984/laws.FnExactNumberPackets", spec := "fnExactNumberPackets", apart := false, narrowed := true }
def FnExactNumberPacketsUptoSaid : Prop := fnExactNumberPacketsUptoRow.holds Try.pinned (OpenSpec.upto fnExactNumberPacketsSpec)

/-- 'laws.FnExactClassOnly', WHERE WHAT IT READS IS OF BULK AT MOST 1048576: true; the input reads as it did. -/
def fnExactClassOnlyUptoRow : OpenClaim := { program := "ytlfmckdhmklgpaa", sum := "43fd1594010b1af7b500a61edf0c95aed03efe975684b72ce37d079ab62f7218", func := "loop.example/g00984/laws.FnExactClassOnly", spec := "fnExactClassOnly", apart := false, narrowed := true }
def FnExactClassOnlyUptoSaid : Prop := fnExactClassOnlyUptoRow.holds Try.pinned (OpenSpec.upto fnExactClassOnlySpec)

/-- 'laws.FnFlits', WHERE WHAT IT READS IS OF BULK AT MOST 1048576: true; the input reads as it did. -/
def fnFlitsUptoRow : OpenClaim := { program := "ytlfmckdhmklgpaa", sum := "43fd1594010b1af7b500a61edf0c95aed03efe975684b72ce37d079ab62f7218", func := "loop.example/g00984/laws.FnFlits", spec := "fnFlits", apart := false, narrowed := true }
def FnFlitsUptoSaid : Prop := fnFlitsUptoRow.holds Try.pinned (OpenSpec.upto fnFlitsSpec)

/-- 'laws.FnExactTableFor', WHERE WHAT IT READS IS OF BULK AT MOST 1048576: true; the input reads as it did. -/
def fnExactTableForUptoRow : OpenClaim := { program := "ytlfmckdhmklgpaa", sum := "43fd1594010b1af7b500a61edf0c95aed03efe975684b72ce37d079ab62f7218", func := "loop.example/g00984/laws.FnExactTableFor", spec := "fnExactTableFor", apart := false, narrowed := true }
def FnExactTableForUptoSaid : Prop := fnExactTableForUptoRow.holds Try.pinned (OpenSpec.upto fnExactTableForSpec)

/-- 'laws.FnExactFlitsOf', WHERE WHAT IT READS IS OF BULK AT MOST 1048576: true; the input reads as it did. -/
def fnExactFlitsOfUptoRow : OpenClaim := { program := "ytlfmckdhmklgpaa", sum := "43fd1594010b1af7b500a61edf0c95aed03efe975684b72ce37d079ab62f7218", func := "loop.example/g00984/laws.FnExactFlitsOf", spec := "fnExactFlitsOf", apart := false, narrowed := true }
def FnExactFlitsOfUptoSaid : Prop := fnExactFlitsOfUptoRow.holds Try.pinned (OpenSpec.upto fnExactFlitsOfSpec)

/-- 'laws.FnExactIsCycle', WHERE WHAT IT READS IS OF BULK AT MOST 1048576: true; the input reads as it did. -/
def fnExactIsCycleUptoRow : OpenClaim := { program := "ytlfmckdhmklgpaa", sum := "43fd1594010b1af7b500a61edf0c95aed03efe975684b72ce37d079ab62f7218", func := "loop.example/g00984/laws.FnExactIsCycle", spec := "fnExactIsCycle", apart := false, narrowed := true }
def FnExactIsCycleUptoSaid : Prop := fnExactIsCycleUptoRow.holds Try.pinned (OpenSpec.upto fnExactIsCycleSpec)

/-- 'laws.FnExactWholePackets', WHERE WHAT IT READS IS OF BULK AT MOST 1048576: true; the input reads as it did. -/
def fnExactWholePacketsUptoRow : OpenClaim := { program := "ytlfmckdhmklgpaa", sum := "43fd1594010b1af7b500a61edf0c95aed03efe975684b72ce37d079ab62f7218", func := "loop.example/g00984/laws.FnExactWholePackets", spec := "fnExactWholePackets", apart := false, narrowed := true }
def FnExactWholePacketsUptoSaid : Prop := fnExactWholePacketsUptoRow.holds Try.pinned (OpenSpec.upto fnExactWholePacketsSpec)

/-- 'laws.FnReach', WHERE WHAT IT READS IS OF BULK AT MOST 1048576: true; the input reads as it did. -/
def fnReachUptoRow : OpenClaim := { program := "ytlfmckdhmklgpaa", sum := "43fd1594010b1af7b500a61edf0c95aed03efe975684b72ce37d079ab62f7218", func := "loop.example/g00984/laws.FnReach", spec := "fnReach", apart := false, narrowed := true }
def FnReachUptoSaid : Prop := fnReachUptoRow.holds Try.pinned (OpenSpec.upto fnReachSpec)

/-- 'laws.FnExactStepsBetween', WHERE WHAT IT READS IS OF BULK AT MOST 1048576: true; the input reads as it did. -/
def fnExactStepsBetweenUptoRow : OpenClaim := { program := "ytlfmckdhmklgpaa", sum := "43fd1594010b1af7b500a61edf0c95aed03efe975684b72ce37d079ab62f7218", func := "loop.example/g00984/laws.FnExactStepsBetween", spec := "fnExactStepsBetween", apart := false, narrowed := true }
def FnExactStepsBetweenUptoSaid : Prop := fnExactStepsBetweenUptoRow.holds Try.pinned (OpenSpec.upto fnExactStepsBetweenSpec)

/-- 'laws.FnExactSplitClasses', WHERE WHAT IT READS IS OF BULK AT MOST 1048576: true; the input reads as it did. -/
def fnExactSplitClassesUptoRow : OpenClaim := { program := "ytlfmckdhmklgpaa", sum := "43fd1594010b1af7b500a61edf0c95aed03efe975684b72ce37d079ab62f7218", func := "loop.example/g00984/laws.FnExactSplitClasses", spec := "fnExactSplitClasses", apart := false, narrowed := true }
def FnExactSplitClassesUptoSaid : Prop := fnExactSplitClassesUptoRow.holds Try.pinned (OpenSpec.upto fnExactSplitClassesSpec)

/-- 'laws.FnRanksXY', WHERE WHAT IT READS IS OF BULK AT MOST 1048576: true; the input reads as it did. -/
def fnRanksXYUptoRow : OpenClaim := { program := "ytlfmckdhmklgpaa", sum := "43fd1594010b1af7b500a61edf0c95aed03efe975684b72ce37d079ab62f7218", func := "loop.example/g00984/laws.FnRanksXY", spec := "fnRanksXY", apart := false, narrowed := true }
def FnRanksXYUptoSaid : Prop := fnRanksXYUptoRow.holds Try.pinned (OpenSpec.upto fnRanksXYSpec)

end Rows
end Go.Proofs.Ytlfmckdhmklgpaa
