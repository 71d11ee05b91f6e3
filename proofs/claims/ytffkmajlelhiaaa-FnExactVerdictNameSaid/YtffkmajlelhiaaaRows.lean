/-
  No cell of these rows narrows 'for every input' (looked for: loops, veiled, ifaces, maps, wideKeys, modest, calm, conditions, laid).
  DERIVED. THE GIVEN ROWS OF THIS SEAT. 12 by the template 'for every input the law returns true; each argument reads behind the call as it read before'; 0 by the template 'total and deterministic' (their statements: YtffkmajlelhiaaaTotals.lean).
  GIVEN WITH THE SEED: the statements are not yours to turn. If you find one false, say at which input.
  Laid BY PROGRAM, IN A SANDBOX (cutbox-rows.mjs): the forced cells as the released guide's own fill.sh prints them over the translation b1d48c5c6010e768… (all of the seat's roots in one cut). By AI agents, Wed Nov 11 2026. No macro, syntax, notation, axiom, sorry.
-/
import Derived.Test.YtffkmajlelhiaaaChecked
import GoSem.Claim
import GoSem.ClaimJoined
import GoSem.ClaimMapViews
import Derived.JoinedTies
import Derived.KernelRfl
namespace Go.Proofs.Ytffkmajlelhiaaa
/- THE CELL 'sum', in the pinned program and in every row, IS THE sha256 OF THE DUMP (.gsa) THAT YtffkmajlelhiaaaProg.lean LOADS. Nothing in Lean hashes anything: it is a label: what it is worth is what the hold of that sum in a sandbox is worth. -/
noncomputable def Try.pinned : Pinned := { name := "ytffkmajlelhiaaa", sum := "b1d48c5c6010e768c522b22984a129eb606a847190785f4ded8a494a819b38c0", checked := Try.checked }
namespace Rows
def none {H : Type} : Left H := { results := [], args := [] }

/-- 'laws.FnExactBufferAt': WHATEVER THE INPUT: true; the input reads as it did. -/
def fnExactBufferAtSpec : ChangeSpec := { name := "fnExactBufferAt", fn := fun _ => fun
  | [d1, d2, d3] => { results := [.lit (.bool true)], args := [d1, d2, d3] }
  | _ => none }
def fnExactBufferAtRow : OpenClaim := { program := "ytffkmajlelhiaaa", sum := "b1d48c5c6010e768c522b22984a129eb606a847190785f4ded8a494a819b38c0", func := "loop.example/g00984/laws.FnExactBufferAt", spec := "fnExactBufferAt", apart := false }
def FnExactBufferAtSaid : Prop := fnExactBufferAtRow.holds Try.pinned (OpenSpec.ofChange fnExactBufferAtSpec)

/-- ITS FALSE NEIGHBOUR: 'it returns false'. Refute it at one input. -/
def fnExactBufferAtWrong : ChangeSpec := { name := "fnExactBufferAt", fn := fun _ => fun
  | [d1, d2, d3] => { results := [.lit (.bool false)], args := [d1, d2, d3] }
  | _ => none }
def FnExactBufferAtWrongFalsely : Prop := fnExactBufferAtRow.holds Try.pinned (OpenSpec.ofChange fnExactBufferAtWrong)

/-- 'laws.FnExactVerdictName': WHATEVER THE INPUT: true; the input reads as it did. -/
def fnExactVerdictNameSpec : ChangeSpec := { name := "fnExactVerdictName", fn := fun _ => fun
  | [d] => { results := [.lit (.bool true)], args := [d] }
  | _ => none }
def fnExactVerdictNameRow : OpenClaim := { program := "ytffkmajlelhiaaa", sum := "b1d48c5c6010e768c522b22984a129eb606a847190785f4ded8a494a819b38c0", func := "loop.example/g00984/laws.FnExactVerdictName", spec := "fnExactVerdictName", apart := false }
def FnExactVerdictNameSaid : Prop := fnExactVerdictNameRow.holds Try.pinned (OpenSpec.ofChange fnExactVerdictNameSpec)

/-- ITS FALSE NEIGHBOUR: 'it returns false'. Refute it at one input. -/
def fnExactVerdictNameWrong : ChangeSpec := { name := "fnExactVerdictName", fn := fun _ => fun
  | [d] => { results := [.lit (.bool false)], args := [d] }
  | _ => none }
def FnExactVerdictNameWrongFalsely : Prop := fnExactVerdictNameRow.holds Try.pinned (OpenSpec.ofChange fnExactVerdictNameWrong)

/-- 'laws.FnExactHopsBetween': WHATEVER THE INPUT: true; the input reads as it did. -/
def fnExactHopsBetweenSpec : ChangeSpec := { name := "fnExactHopsBetween", fn := fun _ => fun
  | [d1, d2, d3] => { results := [.lit (.bool true)], args := [d1, d2, d3] }
  | _ => none }
def fnExactHopsBetweenRow : OpenClaim := { program := "ytffkmajlelhiaaa", sum := "b1d48c5c6010e768c522b22984a129eb606a847190785f4ded8a494a819b38c0", func := "loop.example/g00984/laws.FnExactHopsBetween", spec := "fnExactHopsBetween", apart := false }
def FnExactHopsBetweenSaid : Prop := fnExactHopsBetweenRow.holds Try.pinned (OpenSpec.ofChange fnExactHopsBetweenSpec)

/-- ITS FALSE NEIGHBOUR: 'it returns false'. Refute it at one input. -/
def fnExactHopsBetweenWrong : ChangeSpec := { name := "fnExactHopsBetween", fn := fun _ => fun
  | [d1, d2, d3] => { results := [.lit (.bool false)], args := [d1, d2, d3] }
  | _ => none }
def FnExactHopsBetweenWrongFalsely : Prop := fnExactHopsBetweenRow.holds Try.pinned (OpenSpec.ofChange fnExactHopsBetweenWrong)

/-- 'laws.FnExactPacketOk': WHATEVER THE INPUT: true; the input reads as it did. -/
def fnExactPacketOkSpec : ChangeSpec := { name := "fnExactPacketOk", fn := fun _ => fun
  | [d1, d2] => { results := [.lit (.bool true)], args := [d1, d2] }
  | _ => none }
def fnExactPacketOkRow : OpenClaim := { program := "ytffkmajlelhiaaa", sum := "b1d48c5c6010e768c522b22984a129eb606a847190785f4ded8a494a819b38c0", func := "loop.example/g00984/laws.FnExactPacketOk", spec := "fnExactPacketOk", apart := false }
def FnExactPacketOkSaid : Prop := fnExactPacketOkRow.holds Try.pinned (OpenSpec.ofChange fnExactPacketOkSpec)

/-- ITS FALSE NEIGHBOUR: 'it returns false'. Refute it at one input. -/
def fnExactPacketOkWrong : ChangeSpec := { name := "fnExactPacketOk", fn := fun _ => fun
  | [d1, d2] => { results := [.lit (.bool false)], args := [d1, d2] }
  | _ => none }
def FnExactPacketOkWrongFalsely : Prop := fnExactPacketOkRow.holds Try.pinned (OpenSpec.ofChange fnExactPacketOkWrong)

/-- 'laws.FnExactFirstFrom': WHATEVER THE INPUT: true; the input reads as it did. -/
def fnExactFirstFromSpec : ChangeSpec := { name := "fnExactFirstFrom", fn := fun _ => fun
  | [d1, d2] => { results := [.lit (.bool true)], args := [d1, d2] }
  | _ => none }
def fnExactFirstFromRow : OpenClaim := { program := "ytffkmajlelhiaaa", sum := "b1d48c5c6010e768c522b22984a129eb606a847190785f4ded8a494a819b38c0", func := "loop.example/g00984/laws.FnExactFirstFrom", spec := "fnExactFirstFrom", apart := false }
def FnExactFirstFromSaid : Prop := fnExactFirstFromRow.holds Try.pinned (OpenSpec.ofChange fnExactFirstFromSpec)

/-- ITS FALSE NEIGHBOUR: 'it returns false'. Refute it at one input. -/
def fnExactFirstFromWrong : ChangeSpec := { name := "fnExactFirstFrom", fn := fun _ => fun
  | [d1, d2] => { results := [.lit (.bool false)], args := [d1, d2] }
  | _ => none }
def FnExactFirstFromWrongFalsely : Prop := fnExactFirstFromRow.holds Try.pinned (OpenSpec.ofChange fnExactFirstFromWrong)

/-- 'laws.FnExactGrantOk': WHATEVER THE INPUT: true; the input reads as it did. -/
def fnExactGrantOkSpec : ChangeSpec := { name := "fnExactGrantOk", fn := fun _ => fun
  | [d] => { results := [.lit (.bool true)], args := [d] }
  | _ => none }
def fnExactGrantOkRow : OpenClaim := { program := "ytffkmajlelhiaaa", sum := "b1d48c5c6010e768c522b22984a129eb606a847190785f4ded8a494a819b38c0", func := "loop.example/g00984/laws.FnExactGrantOk", spec := "fnExactGrantOk", apart := false }
def FnExactGrantOkSaid : Prop := fnExactGrantOkRow.holds Try.pinned (OpenSpec.ofChange fnExactGrantOkSpec)

/-- ITS FALSE NEIGHBOUR: 'it returns false'. Refute it at one input. -/
def fnExactGrantOkWrong : ChangeSpec := { name := "fnExactGrantOk", fn := fun _ => fun
  | [d] => { results := [.lit (.bool false)], args := [d] }
  | _ => none }
def FnExactGrantOkWrongFalsely : Prop := fnExactGrantOkRow.holds Try.pinned (OpenSpec.ofChange fnExactGrantOkWrong)

/-- 'laws.FnTurnsOfInputs': WHATEVER THE INPUT: true; the input reads as it did. -/
def fnTurnsOfInputsSpec : ChangeSpec := { name := "fnTurnsOfInputs", fn := fun _ => fun
  | [d] => { results := [.lit (.bool true)], args := [d] }
  | _ => none }
def fnTurnsOfInputsRow : OpenClaim := { program := "ytffkmajlelhiaaa", sum := "b1d48c5c6010e768c522b22984a129eb606a847190785f4ded8a494a819b38c0", func := "loop.example/g00984/laws.FnTurnsOfInputs", spec := "fnTurnsOfInputs", apart := false }
def FnTurnsOfInputsSaid : Prop := fnTurnsOfInputsRow.holds Try.pinned (OpenSpec.ofChange fnTurnsOfInputsSpec)

/-- ITS FALSE NEIGHBOUR: 'it returns false'. Refute it at one input. -/
def fnTurnsOfInputsWrong : ChangeSpec := { name := "fnTurnsOfInputs", fn := fun _ => fun
  | [d] => { results := [.lit (.bool false)], args := [d] }
  | _ => none }
def FnTurnsOfInputsWrongFalsely : Prop := fnTurnsOfInputsRow.holds Try.pinned (OpenSpec.ofChange fnTurnsOfInputsWrong)

/-- 'laws.FnExactIsWhole': WHATEVER THE INPUT: true; the input reads as it did. -/
def fnExactIsWholeSpec : ChangeSpec := { name := "fnExactIsWhole", fn := fun _ => fun
  | [d] => { results := [.lit (.bool true)], args := [d] }
  | _ => none }
def fnExactIsWholeRow : OpenClaim := { program := "ytffkmajlelhiaaa", sum := "b1d48c5c6010e768c522b22984a129eb606a847190785f4ded8a494a819b38c0", func := "loop.example/g00984/laws.FnExactIsWhole", spec := "fnExactIsWhole", apart := false }
def FnExactIsWholeSaid : Prop := fnExactIsWholeRow.holds Try.pinned (OpenSpec.ofChange fnExactIsWholeSpec)

/-- ITS FALSE NEIGHBOUR: 'it returns false'. Refute it at one input. -/
def fnExactIsWholeWrong : ChangeSpec := { name := "fnExactIsWhole", fn := fun _ => fun
  | [d] => { results := [.lit (.bool false)], args := [d] }
  | _ => none }
def FnExactIsWholeWrongFalsely : Prop := fnExactIsWholeRow.holds Try.pinned (OpenSpec.ofChange fnExactIsWholeWrong)

/-- 'laws.FnExactCountPackets': WHATEVER THE INPUT: true; the input reads as it did. -/
def fnExactCountPacketsSpec : ChangeSpec := { name := "fnExactCountPackets", fn := fun _ => fun
  | [d] => { results := [.lit (.bool true)], args := [d] }
  | _ => none }
def fnExactCountPacketsRow : OpenClaim := { program := "ytffkmajlelhiaaa", sum := "b1d48c5c6010e768c522b22984a129eb606a847190785f4ded8a494a819b38c0", func := "loop.example/g00984/laws.FnExactCountPackets", spec := "fnExactCountPackets", apart := false }
def FnExactCountPacketsSaid : Prop := fnExactCountPacketsRow.holds Try.pinned (OpenSpec.ofChange fnExactCountPacketsSpec)

/-- ITS FALSE NEIGHBOUR: 'it returns false'. Refute it at one input. -/
def fnExactCountPacketsWrong : ChangeSpec := { name := "fnExactCountPackets", fn := fun _ => fun
  | [d] => { results := [.lit (.bool false)], args := [d] }
  | _ => none }
def FnExactCountPacketsWrongFalsely : Prop := fnExactCountPacketsRow.holds Try.pinned (OpenSpec.ofChange fnExactCountPacketsWrong)

/-- 'laws.FnExactIdsDistinct': WHATEVER THE INPUT: true; the input reads as it did. -/
def fnExactIdsDistinctSpec : ChangeSpec := { name := "fnExactIdsDistinct", fn := fun _ => fun
  | [d] => { results := [.lit (.bool true)], args := [d] }
  | _ => none }
def fnExactIdsDistinctRow : OpenClaim := { program := "ytffkmajlelhiaaa", sum := "b1d48c5c6010e768c522b22984a129eb606a847190785f4ded8a494a819b38c0", func := "loop.example/g00984/laws.FnExactIdsDistinct", spec := "fnExactIdsDistinct", apart := false }
def FnExactIdsDistinctSaid : Prop := fnExactIdsDistinctRow.holds Try.pinned (OpenSpec.ofChange fnExactIdsDistinctSpec)

/-- ITS FALSE NEIGHBOUR: 'it returns false'. Refute it at one input. -/
def fnExactIdsDistinctWrong : ChangeSpec := { name := "fnExactIdsDistinct", fn := fun _ => fun
  | [d] => { results := [.lit (.bool false)], args := [d] }
  | _ => none }
def FnExactIdsDistinctWrongFalsely : Prop := fnExactIdsDistinctRow.holds Try.pinned (OpenSpec.ofChange fnExactIdsDistinctWrong)

/-- 'laws.FnExactSameFlits': WHATEVER THE INPUT: true; the input reads as it did. -/
def fnExactSameFlitsSpec : ChangeSpec := { name := "fnExactSameFlits", fn := fun _ => fun
  | [d1, d2] => { results := [.lit (.bool true)], args := [d1, d2] }
  | _ => none }
def fnExactSameFlitsRow : OpenClaim := { program := "ytffkmajlelhiaaa", sum := "b1d48c5c6010e768c522b22984a129eb606a847190785f4ded8a494a819b38c0", func := "loop.example/g00984/laws.FnExactSameFlits", spec := "fnExactSameFlits", apart := false }
def FnExactSameFlitsSaid : Prop := fnExactSameFlitsRow.holds Try.pinned (OpenSpec.ofChange fnExactSameFlitsSpec)

/-- ITS FALSE NEIGHBOUR: 'it returns false'. Refute it at one input. -/
def fnExactSameFlitsWrong : ChangeSpec := { name := "fnExactSameFlits", fn := fun _ => fun
  | [d1, d2] => { results := [.lit (.bool false)], args := [d1, d2] }
  | _ => none }
def FnExactSameFlitsWrongFalsely : Prop := fnExactSameFlitsRow.holds Try.pinned (OpenSpec.ofChange fnExactSameFlitsWrong)

/-- 'laws.FnHops': WHATEVER THE INPUT: true; the input reads as it did. -/
def fnHopsSpec : ChangeSpec := { name := "fnHops", fn := fun _ => fun
  | [d] => { results := [.lit (.bool true)], args := [d] }
  | _ => none }
def fnHopsRow : OpenClaim := { program := "ytffkmajlelhiaaa", sum := "b1d48c5c6010e768c522b22984a129eb606a847190785f4ded8a494a819b38c0", func := "loop.example/g00984/laws.FnHops", spec := "fnHops", apart := false }
def FnHopsSaid : Prop := fnHopsRow.holds Try.pinned (OpenSpec.ofChange fnHopsSpec)

/-- ITS FALSE NEIGHBOUR: 'it returns false'. Refute it at one input. -/
def fnHopsWrong : ChangeSpec := { name := "fnHops", fn := fun _ => fun
  | [d] => { results := [.lit (.bool false)], args := [d] }
  | _ => none }
def FnHopsWrongFalsely : Prop := fnHopsRow.holds Try.pinned (OpenSpec.ofChange fnHopsWrong)

/- THE SECOND FORM. 'bulk': how many values and letters a reading holds, each counted each time it is reached (what is shared counts as often as it is met; a slice's spare places count too). A statement '..UptoSaid' is the law's where the arguments, and the package variables that the reading takes, are together of bulk at most 1048576: NARROWER than '..Said'. Prove '..Said' where nothing that the law and all that it calls make is longer than what came in: it says more and counts as full. Else prove '..UptoSaid'. A law counts once. -/
mutual
def uptoBulk {H : Type} : DataW H → Nat
  | .lit (.string bytes) => bytes.length + 1
  | .lit _ => 1
  | .nil => 1
  | .ptr d => uptoBulk d + 1
  | .slice elems spare => uptoBulkAll elems + uptoBulkAll spare + 1
  | .agg parts => uptoBulkAll parts + 1
  | .iface _ d => uptoBulk d + 1
  | .map entries => uptoBulkEntries entries + 1
  | .held _ => 1
def uptoBulkAll {H : Type} : List (DataW H) → Nat
  | [] => 0
  | d :: r => uptoBulk d + uptoBulkAll r
def uptoBulkEntries {H : Type} : List (Lit × DataW H) → Nat
  | [] => 0
  | x :: r => uptoBulkEntry x + uptoBulkEntries r
def uptoBulkEntry {H : Type} : Lit × DataW H → Nat
  | (.string bytes, d) => bytes.length + uptoBulk d + 1
  | (_, d) => uptoBulk d + 1
 end
def uptoSmall : (H : Type) → List (DataW H) → Bool := fun _ ds => decide (uptoBulkAll ds ≤ 1048576)
def OpenSpec.upto (s : _root_.Go.ChangeSpec) : _root_.Go.OpenSpec := { _root_.Go.OpenSpec.ofChange s with cond := some uptoSmall }

/-- 'laws.FnExactBufferAt', WHERE WHAT IT READS IS OF BULK AT MOST 1048576: true; the input reads as it did. -/
def fnExactBufferAtUptoRow : OpenClaim := { program := "ytffkmajlelhiaaa", sum := "b1d48c5c6010e768c522b22984a129eb606a847190785f4ded8a494a819b38c0", func := "loop.example/g00984/laws.FnExactBufferAt", spec := "fnExactBufferAt", apart := false, narrowed := true }
def FnExactBufferAtUptoSaid : Prop := fnExactBufferAtUptoRow.holds Try.pinned (OpenSpec.upto fnExactBufferAtSpec)

/-- 'laws.FnExactVerdictName', WHERE WHAT IT READS IS OF BULK AT MOST 1048576: true; the input reads as it did. -/
def fnExactVerdictNameUptoRow : OpenClaim := { program := "ytffkmajlelhiaaa", sum := "b1d48c5c6010e768c522b22984a129eb606a847190785f4ded8a494a819b38c0", func := "loop.example/g00984/laws.FnExactVerdictName", spec := "fnExactVerdictName", apart := false, narrowed := true }
def FnExactVerdictNameUptoSaid : Prop := fnExactVerdictNameUptoRow.holds Try.pinned (OpenSpec.upto fnExactVerdictNameSpec)

/-- 'laws.FnExactHopsBetween', WHERE WHAT IT READS IS OF BULK AT MOST 1048576: true; the input reads as it did. -/
def fnExactHopsBetweenUptoRow : OpenClaim := { program := "ytffkmajlelhiaaa", sum := "b1d48c5c6010e768c522b22984a129eb606a847190785f4ded8a494a819b38c0", func := "loop.example/g00984/laws.FnExactHopsBetween", spec := "fnExactHopsBetween", apart := false, narrowed := true }
def FnExactHopsBetweenUptoSaid : Prop := fnExactHopsBetweenUptoRow.holds Try.pinned (OpenSpec.upto fnExactHopsBetweenSpec)

/-- 'laws.FnExactPacketOk', WHERE WHAT IT READS IS OF BULK AT MOST 1048576: true; the input reads as it did. -/
def fnExactPacketOkUptoRow : OpenClaim := { program := "ytffkmajlelhiaaa", sum := "b1d48c5c6010e768c522b22984a129eb606a847190785f4ded8a494a819b38c0", func := "loop.example/g00984/laws.FnExactPacketOk", spec := "fnExactPacketOk", apart := false, narrowed := true }
def FnExactPacketOkUptoSaid : Prop := fnExactPacketOkUptoRow.holds Try.pinned (OpenSpec.upto fnExactPacketOkSpec)

/-- 'laws.FnExactFirstFrom', WHERE WHAT IT READS IS OF BULK AT MOST 1048576: true; the input reads as it did. -/
def fnExactFirstFromUptoRow : OpenClaim := { program := "ytffkmajlelhiaaa", sum := "b1d48c5c6010e768c522b22984a129eb606a847190785f4ded8a494a819b38c0", func := "loop.example/g00984/laws.FnExactFirstFrom", spec := "fnExactFirstFrom", apart := false, narrowed := true }
def FnExactFirstFromUptoSaid : Prop := fnExactFirstFromUptoRow.holds Try.pinned (OpenSpec.upto fnExactFirstFromSpec)

/-- 'laws.FnExactGrantOk', WHERE WHAT IT READS IS OF BULK AT MOST 1048576: true; the input reads as it did. -/
def fnExactGrantOkUptoRow : OpenClaim := { program := "ytffkmajlelhiaaa", sum := "b1d48c5c6010e768c522b22984a129eb606a847190785f4ded8a494a819b38c0", func := "loop.example/g00984/laws.FnExactGrantOk", spec := "fnExactGrantOk", apart := false, narrowed := true }
def FnExactGrantOkUptoSaid : Prop := fnExactGrantOkUptoRow.holds Try.pinned (OpenSpec.upto fnExactGrantOkSpec)

/-- 'laws.FnTurnsOfInputs', WHERE WHAT IT READS IS OF BULK AT MOST 1048576: true; the input reads as it did. -/
def fnTurnsOfInputsUptoRow : OpenClaim := { program := "ytffkmajlelhiaaa", sum := "b1d48c5c6010e768c522b22984a129eb606a847190785f4ded8a494a819b38c0", func := "loop.example/g00984/laws.FnTurnsOfInputs", spec := "fnTurnsOfInputs", apart := false, narrowed := true }
def FnTurnsOfInputsUptoSaid : Prop := fnTurnsOfInputsUptoRow.holds Try.pinned (OpenSpec.upto fnTurnsOfInputsSpec)

/-- 'laws.FnExactIsWhole', WHERE WHAT IT READS IS OF BULK AT MOST 1048576: true; the input reads as it did. -/
def fnExactIsWholeUptoRow : OpenClaim := { program := "ytffkmajlelhiaaa", sum := "b1d48c5c6010e768c522b22984a129eb606a847190785f4ded8a494a819b38c0", func := "loop.example/g00984/laws.FnExactIsWhole", spec := "fnExactIsWhole", apart := false, narrowed := true }
def FnExactIsWholeUptoSaid : Prop := fnExactIsWholeUptoRow.holds Try.pinned (OpenSpec.upto fnExactIsWholeSpec)

/-- 'laws.FnExactCountPackets', WHERE WHAT IT READS IS OF BULK AT MOST 1048576: true; the input reads as it did. -/
def fnExactCountPacketsUptoRow : OpenClaim := { program := "ytffkmajlelhiaaa", sum := "b1d48c5c6010e768c522b22984a129eb606a847190785f4ded8a494a819b38c0", func := "loop.example/g00984/laws.FnExactCountPackets", spec := "fnExactCountPackets", apart := false, narrowed := true }
def FnExactCountPacketsUptoSaid : Prop := fnExactCountPacketsUptoRow.holds Try.pinned (OpenSpec.upto fnExactCountPacketsSpec)

/-- 'laws.FnExactIdsDistinct', WHERE WHAT IT READS IS OF BULK AT MOST 1048576: true; the input reads as it did. -/
def fnExactIdsDistinctUptoRow : OpenClaim := { program := "ytffkmajlelhiaaa", sum := "b1d48c5c6010e768c522b22984a129eb606a847190785f4ded8a494a819b38c0", func := "loop.example/g00984/laws.FnExactIdsDistinct", spec := "fnExactIdsDistinct", apart := false, narrowed := true }
def FnExactIdsDistinctUptoSaid : Prop := fnExactIdsDistinctUptoRow.holds Try.pinned (OpenSpec.upto fnExactIdsDistinctSpec)

/-- 'laws.FnExactSameFlits', WHERE WHAT IT READS IS OF BULK AT MOST 1048576: true; the input reads as it did. -/
def fnExactSameFlitsUptoRow : OpenClaim := { program := "ytffkmajlelhiaaa", sum := "b1d48c5c6010e768c522b22984a129eb606a847190785f4ded8a494a819b38c0", func := "loop.example/g00984/laws.FnExactSameFlits", spec := "fnExactSameFlits", apart := false, narrowed := true }
def FnExactSameFlitsUptoSaid : Prop := fnExactSameFlitsUptoRow.holds Try.pinned (OpenSpec.upto fnExactSameFlitsSpec)

/-- 'laws.FnHops', WHERE WHAT IT READS IS OF BULK AT MOST 1048576: true; the input reads as it did. -/
def fnHopsUptoRow : OpenClaim := { program := "ytffkmajlelhiaaa", sum := "b1d48c5c6010e768c522b22984a129eb606a847190785f4ded8a494a819b38c0", func := "loop.example/g00984/laws.FnHops", spec := "fnHops", apart := false, narrowed := true }
def FnHopsUptoSaid : Prop := fnHopsUptoRow.holds Try.pinned (OpenSpec.upto fnHopsSpec)

end Rows
end Go.Proofs.Ytffkmajlelhiaaa
