/-
  No cell of these rows narrows 'for every input' (looked for: loops, veiled, ifaces, maps, wideKeys, modest, calm, conditions, laid).
  DERIVED. THE GIVEN ROWS OF THIS SEAT. 5 by the template 'for every input the law returns true; each argument reads behind the call as it read before'; 0 by the template 'total and deterministic' (their statements: YtjialkmfmpkjgaaTotals.lean).
  GIVEN WITH THE SEED: the statements are not yours to turn. If you find one false, say at which input.
  Laid BY PROGRAM, IN A SANDBOX (cutbox-rows.mjs): the forced cells as the released guide's own fill.sh prints them over the translation c38c3d9665c4d978… (all of the seat's roots in one cut). By AI agents, Wed Nov 11 2026. No macro, syntax, notation, axiom, sorry.
-/
import Derived.Test.YtjialkmfmpkjgaaChecked
import GoSem.Claim
import GoSem.ClaimJoined
import GoSem.ClaimMapViews
import Derived.JoinedTies
import Derived.KernelRfl
namespace Go.Proofs.Ytjialkmfmpkjgaa
/- THE CELL 'sum', in the pinned program and in every row, IS THE sha256 OF THE DUMP (.gsa) THAT YtjialkmfmpkjgaaProg.lean LOADS. Nothing in Lean hashes anything: it is a label: what it is worth is what the hold of that sum in a sandbox is worth. -/
noncomputable def Try.pinned : Pinned := { name := "ytjialkmfmpkjgaa", sum := "c38c3d9665c4d978acce7f351f72553c308eed0d3fa2befcd2da94dd2db904ac", checked := Try.checked }
namespace Rows
def none {H : Type} : Left H := { results := [], args := [] }

/-- 'laws.FnExactIsWhole': WHATEVER THE INPUT: true; the input reads as it did. -/
def fnExactIsWholeSpec : ChangeSpec := { name := "fnExactIsWhole", fn := fun _ => fun
  | [d] => { results := [.lit (.bool true)], args := [d] }
  | _ => none }
def fnExactIsWholeRow : OpenClaim := { program := "ytjialkmfmpkjgaa", sum := "c38c3d9665c4d978acce7f351f72553c308eed0d3fa2befcd2da94dd2db904ac", func := "loop.example/g00984/laws.FnExactIsWhole", spec := "fnExactIsWhole", apart := false }
def FnExactIsWholeSaid : Prop := fnExactIsWholeRow.holds Try.pinned (OpenSpec.ofChange fnExactIsWholeSpec)

/-- ITS FALSE NEIGHBOUR: 'it returns false'. Refute it at one input. -/
def fnExactIsWholeWrong : ChangeSpec := { name := "fnExactIsWhole", fn := fun _ => fun
  | [d] => { results := [.lit (.bool false)], args := [d] }
  | _ => none }
def FnExactIsWholeWrongFalsely : Prop := fnExactIsWholeRow.holds Try.pinned (OpenSpec.ofChange fnExactIsWholeWrong)

/-- 'laws.FnExactWholePackets': WHATEVER THE INPUT: true; the input reads as it did. -/
def fnExactWholePacketsSpec : ChangeSpec := { name := "fnExactWholePackets", fn := fun _ => fun
  | [d] => { results := [.lit (.bool true)], args := [d] }
  | _ => none }
def fnExactWholePacketsRow : OpenClaim := { program := "ytjialkmfmpkjgaa", sum := "c38c3d9665c4d978acce7f351f72553c308eed0d3fa2befcd2da94dd2db904ac", func := "loop.example/g00984/laws.FnExactWholePackets", spec := "fnExactWholePackets", apart := false }
def FnExactWholePacketsSaid : Prop := fnExactWholePacketsRow.holds Try.pinned (OpenSpec.ofChange fnExactWholePacketsSpec)

/-- ITS FALSE NEIGHBOUR: 'it returns false'. Refute it at one input. -/
def fnExactWholePacketsWrong : ChangeSpec := { name := "fnExactWholePackets", fn := fun _ => fun
  | [d] => { results := [.lit (.bool false)], args := [d] }
  | _ => none }
def FnExactWholePacketsWrongFalsely : Prop := fnExactWholePacketsRow.holds Try.pinned (OpenSpec.ofChange fnExactWholePacketsWrong)

/-- 'laws.FnFlits': WHATEVER THE INPUT: true; the input reads as it did. -/
def fnFlitsSpec : ChangeSpec := { name := "fnFlits", fn := fun _ => fun
  | [d] => { results := [.lit (.bool true)], args := [d] }
  | _ => none }
def fnFlitsRow : OpenClaim := { program := "ytjialkmfmpkjgaa", sum := "c38c3d9665c4d978acce7f351f72553c308eed0d3fa2befcd2da94dd2db904ac", func := "loop.example/g00984/laws.FnFlits", spec := "fnFlits", apart := false }
def FnFlitsSaid : Prop := fnFlitsRow.holds Try.pinned (OpenSpec.ofChange fnFlitsSpec)

/-- ITS FALSE NEIGHBOUR: 'it returns false'. Refute it at one input. -/
def fnFlitsWrong : ChangeSpec := { name := "fnFlits", fn := fun _ => fun
  | [d] => { results := [.lit (.bool false)], args := [d] }
  | _ => none }
def FnFlitsWrongFalsely : Prop := fnFlitsRow.holds Try.pinned (OpenSpec.ofChange fnFlitsWrong)

/-- 'laws.FnExactIsCycle': WHATEVER THE INPUT: true; the input reads as it did. -/
def fnExactIsCycleSpec : ChangeSpec := { name := "fnExactIsCycle", fn := fun _ => fun
  | [d1, d2] => { results := [.lit (.bool true)], args := [d1, d2] }
  | _ => none }
def fnExactIsCycleRow : OpenClaim := { program := "ytjialkmfmpkjgaa", sum := "c38c3d9665c4d978acce7f351f72553c308eed0d3fa2befcd2da94dd2db904ac", func := "loop.example/g00984/laws.FnExactIsCycle", spec := "fnExactIsCycle", apart := false }
def FnExactIsCycleSaid : Prop := fnExactIsCycleRow.holds Try.pinned (OpenSpec.ofChange fnExactIsCycleSpec)

/-- ITS FALSE NEIGHBOUR: 'it returns false'. Refute it at one input. -/
def fnExactIsCycleWrong : ChangeSpec := { name := "fnExactIsCycle", fn := fun _ => fun
  | [d1, d2] => { results := [.lit (.bool false)], args := [d1, d2] }
  | _ => none }
def FnExactIsCycleWrongFalsely : Prop := fnExactIsCycleRow.holds Try.pinned (OpenSpec.ofChange fnExactIsCycleWrong)

/-- 'laws.FnRanksXY': WHATEVER THE INPUT: true; the input reads as it did. -/
def fnRanksXYSpec : ChangeSpec := { name := "fnRanksXY", fn := fun _ => fun
  | [d] => { results := [.lit (.bool true)], args := [d] }
  | _ => none }
def fnRanksXYRow : OpenClaim := { program := "ytjialkmfmpkjgaa", sum := "c38c3d9665c4d978acce7f351f72553c308eed0d3fa2befcd2da94dd2db904ac", func := "loop.example/g00984/laws.FnRanksXY", spec := "fnRanksXY", apart := false }
def FnRanksXYSaid : Prop := fnRanksXYRow.holds Try.pinned (OpenSpec.ofChange fnRanksXYSpec)

/-- ITS FALSE NEIGHBOUR: 'it returns false'. Refute it at one input. -/
def fnRanksXYWrong : ChangeSpec := { name := "fnRanksXY", fn := fun _ => fun
  | [d] => { results := [.lit (.bool false)], args := [d] }
  | _ => none }
def FnRanksXYWrongFalsely : Prop := fnRanksXYRow.holds Try.pinned (OpenSpec.ofChange fnRanksXYWrong)

/- THE SECOND FORM. 'bulk': how many values and letters a reading holds, each counted each time it is reached (what is shared counts as often as it is met; a slice's spare places count too). A statement '..UptoSaid' is the law's where the arguments, and the package variables that the reading takes, are together of bulk at most 1048576: NARROWER than '..Said'. Prove '..Said' where nothing that the law and all that it calls make is longer than what came in: it says more and counts as full. Else prove '..UptoSaid'. A law counts once. -/
mutual
def uptoBulk {H : Type} : DataW H → Nat
  | .lit (.string bytes) => bytes.length + 1
  | .lit _ => 1
  | .nil => 1
  | .ptr d => uptoBulk d + 1
  | .slice elems spare => uptoBulkAll elems + uptoBulkAll spare + 1
  | .agg parts => uptoBulkAll parts + 1
  | .iface _ d => uptoBulk d + 1
  | .map entries => uptoBulkEntries entries + 1
  | .held _ => 1
def uptoBulkAll {H : Type} : List (DataW H) → Nat
  | [] => 0
  | d :: r => uptoBulk d + uptoBulkAll r
def uptoBulkEntries {H : Type} : List (Lit × DataW H) → Nat
  | [] => 0
  | x :: r => uptoBulkEntry x + uptoBulkEntries r
def uptoBulkEntry {H : Type} : Lit × DataW H → Nat
  | (.string bytes, d) => bytes.length + uptoBulk d + 1
  | (_, d) => uptoBulk d + 1
 end
def uptoSmall : (H : Type) → List (DataW H) → Bool := fun _ ds => decide (uptoBulkAll ds ≤ 1048576)
def OpenSpec.upto (s : _root_.Go.ChangeSpec) : _root_.Go.OpenSpec := { _root_.Go.OpenSpec.ofChange s with cond := some uptoSmall }

/-- 'laws.FnExactIsWhole', WHERE WHAT IT READS IS OF BULK AT MOST 1048576: true; the input reads as it did. -/
def fnExactIsWholeUptoRow : OpenClaim := { program := "ytjialkmfmpkjgaa", sum := "c38c3d9665c4d978acce7f351f72553c308eed0d3fa2befcd2da94dd2db904ac", func := "loop.example/g00984/laws.FnExactIsWhole", spec := "fnExactIsWhole", apart := false, narrowed := true }
def FnExactIsWholeUptoSaid : Prop := fnExactIsWholeUptoRow.holds Try.pinned (OpenSpec.upto fnExactIsWholeSpec)

/-- 'laws.FnExactWholePackets', WHERE WHAT IT READS IS OF BULK AT MOST 1048576: true; the input reads as it did. -/
def fnExactWholePacketsUptoRow : OpenClaim := { program := "ytjialkmfmpkjgaa", sum := "c38c3d9665c4d978acce7f351f72553c308eed0d3fa2befcd2da94dd2db904ac", func := "loop.example/g00984/laws.FnExactWholePackets", spec := "fnExactWholePackets", apart := false, narrowed := true }
def FnExactWholePacketsUptoSaid : Prop := fnExactWholePacketsUptoRow.holds Try.pinned (OpenSpec.upto fnExactWholePacketsSpec)

/-- 'laws.FnFlits', WHERE WHAT IT READS IS OF BULK AT MOST 1048576: true; the input reads as it did. -/
def fnFlitsUptoRow : OpenClaim := { program := "ytjialkmfmpkjgaa", sum := "c38c3d9665c4d978acce7f351f72553c308eed0d3fa2befcd2da94dd2db904ac", func := "loop.example/g00984/laws.FnFlits", spec := "fnFlits", apart := false, narrowed := true }
def FnFlitsUptoSaid : Prop := fnFlitsUptoRow.holds Try.pinned (OpenSpec.upto fnFlitsSpec)

/-- 'laws.FnExactIsCycle', WHERE WHAT IT READS IS OF BULK AT MOST 1048576: true; the input reads as it did. -/
def fnExactIsCycleUptoRow : OpenClaim := { program := "ytjialkmfmpkjgaa", sum := "c38c3d9665c4d978acce7f351f72553c308eed0d3fa2befcd2da94dd2db904ac", func := "loop.example/g00984/laws.FnExactIsCycle", spec := "fnExactIsCycle", apart := false, narrowed := true }
def FnExactIsCycleUptoSaid : Prop := fnExactIsCycleUptoRow.holds Try.pinned (OpenSpec.upto fnExactIsCycleSpec)

/-- 'laws.FnRanksXY', WHERE WHAT IT READS IS OF BULK AT MOST 1048576: true; the input reads as it did. -/
def fnRanksXYUptoRow : OpenClaim := { program := "ytjialkmfmpkjgaa", sum := "c38c3d9665c4d978acce7f351f72553c308eed0d3fa2befcd2da94dd2db904ac", func := "loop.example/g00984/laws.FnRanksXY", spec := "fnRanksXY", apart := false, narrowed := true }
def FnRanksXYUptoSaid : Prop := fnRanksXYUptoRow.holds Try.pinned (OpenSpec.upto fnRanksXYSpec)

end Rows
end Go.Proofs.Ytjialkmfmpkjgaa
