/-
  No cell of these rows narrows 'for every input' (looked for: loops, veiled, ifaces, maps, wideKeys, modest, calm, conditions, laid).
  DERIVED. THE GIVEN ROWS OF THIS SEAT. 10 by the template 'for every input the law returns true; each argument reads behind the call as it read before'; 0 by the template 'total and deterministic' (their statements: YtimdefbpoddoaaaTotals.lean).
  GIVEN WITH THE SEED: the statements are not yours to turn. If you find one false, say at which input.
  Laid BY PROGRAM, IN A SANDBOX (cutbox-rows.mjs): the forced cells as the released guide's own fill.sh prints them over the translation d4feb08ff0810dc0… (all of the seat's roots in one cut). By AI agents, Wed Nov 11 2026. No macro, syntax, notation, axiom, sorry.
-/
import Derived.Test.YtimdefbpoddoaaaChecked
import GoSem.Claim
import GoSem.ClaimJoined
import GoSem.ClaimMapViews
import Derived.JoinedTies
import Derived.KernelRfl
namespace Go.Proofs.Ytimdefbpoddoaaa
/- THE CELL 'sum', in the pinned program and in every row, IS THE sha256 OF THE DUMP (.gsa) THAT YtimdefbpoddoaaaProg.lean LOADS. Nothing in Lean hashes anything: it is a label: what it is worth is what the hold of that sum in a sandbox is worth. -/
noncomputable def Try.pinned : Pinned := { name := "ytimdefbpoddoaaa", sum := "d4feb08ff0810dc05945fe026d65372d1b3df38987b35c437716a4006be0ce31", checked := Try.checked }
namespace Rows
def none {H : Type} : Left H := { results := [], args := [] }

/-- 'laws.FnExactRingDepends': WHATEVER THE INPUT: true; the input reads as it did. -/
def fnExactRingDependsSpec : ChangeSpec := { name := "fnExactRingDepends", fn := fun _ => fun
  | [d1, d2] => { results := [.lit (.bool true)], args := [d1, d2] }
  | _ => none }
def fnExactRingDependsRow : OpenClaim := { program := "ytimdefbpoddoaaa", sum := "d4feb08ff0810dc05945fe026d65372d1b3df38987b35c437716a4006be0ce31", func := "loop.example/g00984/laws.FnExactRingDepends", spec := "fnExactRingDepends", unfollowed := true, recurses := true, apart := false }
def FnExactRingDependsSaid : Prop := fnExactRingDependsRow.holds Try.pinned (OpenSpec.ofChange fnExactRingDependsSpec)

/-- ITS FALSE NEIGHBOUR: 'it returns false'. Refute it at one input. -/
def fnExactRingDependsWrong : ChangeSpec := { name := "fnExactRingDepends", fn := fun _ => fun
  | [d1, d2] => { results := [.lit (.bool false)], args := [d1, d2] }
  | _ => none }
def FnExactRingDependsWrongFalsely : Prop := fnExactRingDependsRow.holds Try.pinned (OpenSpec.ofChange fnExactRingDependsWrong)

/-- 'laws.FnExactRingIsSafe': WHATEVER THE INPUT: true; the input reads as it did. -/
def fnExactRingIsSafeSpec : ChangeSpec := { name := "fnExactRingIsSafe", fn := fun _ => fun
  | [d1, d2] => { results := [.lit (.bool true)], args := [d1, d2] }
  | _ => none }
def fnExactRingIsSafeRow : OpenClaim := { program := "ytimdefbpoddoaaa", sum := "d4feb08ff0810dc05945fe026d65372d1b3df38987b35c437716a4006be0ce31", func := "loop.example/g00984/laws.FnExactRingIsSafe", spec := "fnExactRingIsSafe", unfollowed := true, recurses := true, apart := false }
def FnExactRingIsSafeSaid : Prop := fnExactRingIsSafeRow.holds Try.pinned (OpenSpec.ofChange fnExactRingIsSafeSpec)

/-- ITS FALSE NEIGHBOUR: 'it returns false'. Refute it at one input. -/
def fnExactRingIsSafeWrong : ChangeSpec := { name := "fnExactRingIsSafe", fn := fun _ => fun
  | [d1, d2] => { results := [.lit (.bool false)], args := [d1, d2] }
  | _ => none }
def FnExactRingIsSafeWrongFalsely : Prop := fnExactRingIsSafeRow.holds Try.pinned (OpenSpec.ofChange fnExactRingIsSafeWrong)

/-- 'laws.FnRings': WHATEVER THE INPUT: true; the input reads as it did. -/
def fnRingsSpec : ChangeSpec := { name := "fnRings", fn := fun _ => fun
  | [d] => { results := [.lit (.bool true)], args := [d] }
  | _ => none }
def fnRingsRow : OpenClaim := { program := "ytimdefbpoddoaaa", sum := "d4feb08ff0810dc05945fe026d65372d1b3df38987b35c437716a4006be0ce31", func := "loop.example/g00984/laws.FnRings", spec := "fnRings", unfollowed := true, recurses := true, apart := false }
def FnRingsSaid : Prop := fnRingsRow.holds Try.pinned (OpenSpec.ofChange fnRingsSpec)

/-- ITS FALSE NEIGHBOUR: 'it returns false'. Refute it at one input. -/
def fnRingsWrong : ChangeSpec := { name := "fnRings", fn := fun _ => fun
  | [d] => { results := [.lit (.bool false)], args := [d] }
  | _ => none }
def FnRingsWrongFalsely : Prop := fnRingsRow.holds Try.pinned (OpenSpec.ofChange fnRingsWrong)

/-- 'laws.FnExactCheckTable': WHATEVER THE INPUT: true; the input reads as it did. -/
def fnExactCheckTableSpec : ChangeSpec := { name := "fnExactCheckTable", fn := fun _ => fun
  | [d1, d2] => { results := [.lit (.bool true)], args := [d1, d2] }
  | _ => none }
def fnExactCheckTableRow : OpenClaim := { program := "ytimdefbpoddoaaa", sum := "d4feb08ff0810dc05945fe026d65372d1b3df38987b35c437716a4006be0ce31", func := "loop.example/g00984/laws.FnExactCheckTable", spec := "fnExactCheckTable", unfollowed := true, recurses := true, apart := false }
def FnExactCheckTableSaid : Prop := fnExactCheckTableRow.holds Try.pinned (OpenSpec.ofChange fnExactCheckTableSpec)

/-- ITS FALSE NEIGHBOUR: 'it returns false'. Refute it at one input. -/
def fnExactCheckTableWrong : ChangeSpec := { name := "fnExactCheckTable", fn := fun _ => fun
  | [d1, d2] => { results := [.lit (.bool false)], args := [d1, d2] }
  | _ => none }
def FnExactCheckTableWrongFalsely : Prop := fnExactCheckTableRow.holds Try.pinned (OpenSpec.ofChange fnExactCheckTableWrong)

/-- 'laws.FnExactSafeRules': WHATEVER THE INPUT: true; the input reads as it did. -/
def fnExactSafeRulesSpec : ChangeSpec := { name := "fnExactSafeRules", fn := fun _ => fun
  | [d] => { results := [.lit (.bool true)], args := [d] }
  | _ => none }
def fnExactSafeRulesRow : OpenClaim := { program := "ytimdefbpoddoaaa", sum := "d4feb08ff0810dc05945fe026d65372d1b3df38987b35c437716a4006be0ce31", func := "loop.example/g00984/laws.FnExactSafeRules", spec := "fnExactSafeRules", unfollowed := true, recurses := true, apart := false }
def FnExactSafeRulesSaid : Prop := fnExactSafeRulesRow.holds Try.pinned (OpenSpec.ofChange fnExactSafeRulesSpec)

/-- ITS FALSE NEIGHBOUR: 'it returns false'. Refute it at one input. -/
def fnExactSafeRulesWrong : ChangeSpec := { name := "fnExactSafeRules", fn := fun _ => fun
  | [d] => { results := [.lit (.bool false)], args := [d] }
  | _ => none }
def FnExactSafeRulesWrongFalsely : Prop := fnExactSafeRulesRow.holds Try.pinned (OpenSpec.ofChange fnExactSafeRulesWrong)

/-- 'laws.FnExactProvesVerdict': WHATEVER THE INPUT: true; the input reads as it did. -/
def fnExactProvesVerdictSpec : ChangeSpec := { name := "fnExactProvesVerdict", fn := fun _ => fun
  | [d1, d2, d3] => { results := [.lit (.bool true)], args := [d1, d2, d3] }
  | _ => none }
def fnExactProvesVerdictRow : OpenClaim := { program := "ytimdefbpoddoaaa", sum := "d4feb08ff0810dc05945fe026d65372d1b3df38987b35c437716a4006be0ce31", func := "loop.example/g00984/laws.FnExactProvesVerdict", spec := "fnExactProvesVerdict", unfollowed := true, recurses := true, apart := false }
def FnExactProvesVerdictSaid : Prop := fnExactProvesVerdictRow.holds Try.pinned (OpenSpec.ofChange fnExactProvesVerdictSpec)

/-- ITS FALSE NEIGHBOUR: 'it returns false'. Refute it at one input. -/
def fnExactProvesVerdictWrong : ChangeSpec := { name := "fnExactProvesVerdict", fn := fun _ => fun
  | [d1, d2, d3] => { results := [.lit (.bool false)], args := [d1, d2, d3] }
  | _ => none }
def FnExactProvesVerdictWrongFalsely : Prop := fnExactProvesVerdictRow.holds Try.pinned (OpenSpec.ofChange fnExactProvesVerdictWrong)

/-- 'laws.FnExactClassDepends': WHATEVER THE INPUT: true; the input reads as it did. -/
def fnExactClassDependsSpec : ChangeSpec := { name := "fnExactClassDepends", fn := fun _ => fun
  | [d1, d2] => { results := [.lit (.bool true)], args := [d1, d2] }
  | _ => none }
def fnExactClassDependsRow : OpenClaim := { program := "ytimdefbpoddoaaa", sum := "d4feb08ff0810dc05945fe026d65372d1b3df38987b35c437716a4006be0ce31", func := "loop.example/g00984/laws.FnExactClassDepends", spec := "fnExactClassDepends", unfollowed := true, recurses := true, apart := false }
def FnExactClassDependsSaid : Prop := fnExactClassDependsRow.holds Try.pinned (OpenSpec.ofChange fnExactClassDependsSpec)

/-- ITS FALSE NEIGHBOUR: 'it returns false'. Refute it at one input. -/
def fnExactClassDependsWrong : ChangeSpec := { name := "fnExactClassDepends", fn := fun _ => fun
  | [d1, d2] => { results := [.lit (.bool false)], args := [d1, d2] }
  | _ => none }
def FnExactClassDependsWrongFalsely : Prop := fnExactClassDependsRow.holds Try.pinned (OpenSpec.ofChange fnExactClassDependsWrong)

/-- 'laws.FnSafeRules': WHATEVER THE INPUT: true; the input reads as it did. -/
def fnSafeRulesSpec : ChangeSpec := { name := "fnSafeRules", fn := fun _ => fun
  | [d] => { results := [.lit (.bool true)], args := [d] }
  | _ => none }
def fnSafeRulesRow : OpenClaim := { program := "ytimdefbpoddoaaa", sum := "d4feb08ff0810dc05945fe026d65372d1b3df38987b35c437716a4006be0ce31", func := "loop.example/g00984/laws.FnSafeRules", spec := "fnSafeRules", unfollowed := true, recurses := true, apart := false }
def FnSafeRulesSaid : Prop := fnSafeRulesRow.holds Try.pinned (OpenSpec.ofChange fnSafeRulesSpec)

/-- ITS FALSE NEIGHBOUR: 'it returns false'. Refute it at one input. -/
def fnSafeRulesWrong : ChangeSpec := { name := "fnSafeRules", fn := fun _ => fun
  | [d] => { results := [.lit (.bool false)], args := [d] }
  | _ => none }
def FnSafeRulesWrongFalsely : Prop := fnSafeRulesRow.holds Try.pinned (OpenSpec.ofChange fnSafeRulesWrong)

/-- 'laws.FnSplitSafe': WHATEVER THE INPUT: true; the input reads as it did. -/
def fnSplitSafeSpec : ChangeSpec := { name := "fnSplitSafe", fn := fun _ => fun
  | [d] => { results := [.lit (.bool true)], args := [d] }
  | _ => none }
def fnSplitSafeRow : OpenClaim := { program := "ytimdefbpoddoaaa", sum := "d4feb08ff0810dc05945fe026d65372d1b3df38987b35c437716a4006be0ce31", func := "loop.example/g00984/laws.FnSplitSafe", spec := "fnSplitSafe", unfollowed := true, recurses := true, apart := false }
def FnSplitSafeSaid : Prop := fnSplitSafeRow.holds Try.pinned (OpenSpec.ofChange fnSplitSafeSpec)

/-- ITS FALSE NEIGHBOUR: 'it returns false'. Refute it at one input. -/
def fnSplitSafeWrong : ChangeSpec := { name := "fnSplitSafe", fn := fun _ => fun
  | [d] => { results := [.lit (.bool false)], args := [d] }
  | _ => none }
def FnSplitSafeWrongFalsely : Prop := fnSplitSafeRow.holds Try.pinned (OpenSpec.ofChange fnSplitSafeWrong)

/-- 'laws.FnClasses': WHATEVER THE INPUT: true; the input reads as it did. -/
def fnClassesSpec : ChangeSpec := { name := "fnClasses", fn := fun _ => fun
  | [d] => { results := [.lit (.bool true)], args := [d] }
  | _ => none }
def fnClassesRow : OpenClaim := { program := "ytimdefbpoddoaaa", sum := "d4feb08ff0810dc05945fe026d65372d1b3df38987b35c437716a4006be0ce31", func := "loop.example/g00984/laws.FnClasses", spec := "fnClasses", unfollowed := true, recurses := true, apart := false }
def FnClassesSaid : Prop := fnClassesRow.holds Try.pinned (OpenSpec.ofChange fnClassesSpec)

/-- ITS FALSE NEIGHBOUR: 'it returns false'. Refute it at one input. -/
def fnClassesWrong : ChangeSpec := { name := "fnClasses", fn := fun _ => fun
  | [d] => { results := [.lit (.bool false)], args := [d] }
  | _ => none }
def FnClassesWrongFalsely : Prop := fnClassesRow.holds Try.pinned (OpenSpec.ofChange fnClassesWrong)

/- THE SECOND FORM. 'bulk': how many values and letters a reading holds, each counted each time it is reached (what is shared counts as often as it is met; a slice's spare places count too). A statement '..UptoSaid' is the law's where the arguments, and the package variables that the reading takes, are together of bulk at most 1048576: NARROWER than '..Said'. Prove '..Said' where nothing that the law and all that it calls make is longer than what came in: it says more and counts as full. Else prove '..UptoSaid'. A law counts once. -/
mutual
def uptoBulk {H : Type} : DataW H → Nat
  | .lit (.string bytes) => bytes.length + 1
  | .lit _ => 1
  | .nil => 1
  | .ptr d => uptoBulk d + 1
  | .slice elems spare => uptoBulkAll elems + uptoBulkAll spare + 1
  | .agg parts => uptoBulkAll parts + 1
  | .iface _ d => uptoBulk d + 1
  | .map entries => uptoBulkEntries entries + 1
  | .held _ => 1
def uptoBulkAll {H : Type} : List (DataW H) → Nat
  | [] => 0
  | d :: r => uptoBulk d + uptoBulkAll r
def uptoBulkEntries {H : Type} : List (Lit × DataW H) → Nat
  | [] => 0
  | x :: r => uptoBulkEntry x + uptoBulkEntries r
def uptoBulkEntry {H : Type} : Lit × DataW H → Nat
  | (.string bytes, d) => bytes.length + uptoBulk d + 1
  | (_, d) => uptoBulk d + 1
 end
def uptoSmall : (H : Type) → List (DataW H) → Bool := fun _ ds => decide (uptoBulkAll ds ≤ 1048576)
def OpenSpec.upto (s : _root_.Go.ChangeSpec) : _root_.Go.OpenSpec := { _root_.Go.OpenSpec.ofChange s with cond := some uptoSmall }

/-- 'laws.FnExactRingDepends', WHERE WHAT IT READS IS OF BULK AT MOST 1048576: true; the input reads as it did. -/
def fnExactRingDependsUptoRow : OpenClaim := { program := "ytimdefbpoddoaaa", sum := "d4feb08ff0810dc05945fe026d65372d1b3df38987b35c437716a4006be0ce31", func := "loop.example/g00984/laws.FnExactRingDepends", spec := "fnExactRingDepends", unfollowed := true, recurses := true, apart := false, narrowed := true }
def FnExactRingDependsUptoSaid : Prop := fnExactRingDependsUptoRow.holds Try.pinned (OpenSpec.upto fnExactRingDependsSpec)

/-- 'laws.FnExactRingIsSafe', WHERE WHAT IT READS IS OF BULK AT MOST 1048576: true; the input reads as it did. -/
def fnExactRingIsSafeUptoRow : OpenClaim := { program := "ytimdefbpoddoaaa", sum := "d4feb08ff0810dc05945fe026d65372d1b3df38987b35c437716a4006be0ce31", func := "loop.example/g00984/laws.FnExactRingIsSafe", spec := "fnExactRingIsSafe", unfollowed := true, recurses := true, apart := false, narrowed := true }
def FnExactRingIsSafeUptoSaid : Prop := fnExactRingIsSafeUptoRow.holds Try.pinned (OpenSpec.upto fnExactRingIsSafeSpec)

/-- 'laws.FnRings', WHERE WHAT IT READS IS OF BULK AT MOST 1048576: true; the input reads as it did. -/
def fnRingsUptoRow : OpenClaim := { program := "ytimdefbpoddoaaa", sum := "d4feb08ff0810dc05945fe026d65372d1b3df38987b35c437716a4006be0ce31", func := "loop.example/g00984/laws.FnRings", spec := "fnRings", unfollowed := true, recurses := true, apart := false, narrowed := true }
def FnRingsUptoSaid : Prop := fnRingsUptoRow.holds Try.pinned (OpenSpec.upto fnRingsSpec)

/-- 'laws.FnExactCheckTable', WHERE WHAT IT READS IS OF BULK AT MOST 1048576: true; the input reads as it did. -/
def fnExactCheckTableUptoRow : OpenClaim := { program := "ytimdefbpoddoaaa", sum := "d4feb08ff0810dc05945fe026d65372d1b3df38987b35c437716a4006be0ce31", func := "loop.example/g00984/laws.FnExactCheckTable", spec := "fnExactCheckTable", unfollowed := true, recurses := true, apart := false, narrowed := true }
def FnExactCheckTableUptoSaid : Prop := fnExactCheckTableUptoRow.holds Try.pinned (OpenSpec.upto fnExactCheckTableSpec)

/-- 'laws.FnExactSafeRules', WHERE WHAT IT READS IS OF BULK AT MOST 1048576: true; the input reads as it did. -/
def fnExactSafeRulesUptoRow : OpenClaim := { program := "ytimdefbpoddoaaa", sum := "d4feb08ff0810dc05945fe026d65372d1b3df38987b35c437716a4006be0ce31", func := "loop.example/g00984/laws.FnExactSafeRules", spec := "fnExactSafeRules", unfollowed := true, recurses := true, apart := false, narrowed := true }
def FnExactSafeRulesUptoSaid : Prop := fnExactSafeRulesUptoRow.holds Try.pinned (OpenSpec.upto fnExactSafeRulesSpec)

/-- 'laws.FnExactProvesVerdict', WHERE WHAT IT READS IS OF BULK AT MOST 1048576: true; the input reads as it did. -/
def fnExactProvesVerdictUptoRow : OpenClaim := { program := "ytimdefbpoddoaaa", sum := "d4feb08ff0810dc05945fe026d65372d1b3df38987b35c437716a4006be0ce31", func := "loop.example/g00984/laws.FnExactProvesVerdict", spec := "fnExactProvesVerdict", unfollowed := true, recurses := true, apart := false, narrowed := true }
def FnExactProvesVerdictUptoSaid : Prop := fnExactProvesVerdictUptoRow.holds Try.pinned (OpenSpec.upto fnExactProvesVerdictSpec)

/-- 'laws.FnExactClassDepends', WHERE WHAT IT READS IS OF BULK AT MOST 1048576: true; the input reads as it did. -/
def fnExactClassDependsUptoRow : OpenClaim := { program := "ytimdefbpoddoaaa", sum := "d4feb08ff0810dc05945fe026d65372d1b3df38987b35c437716a4006be0ce31", func := "loop.example/g00984/laws.FnExactClassDepends", spec := "fnExactClassDepends", unfollowed := true, recurses := true, apart := false, narrowed := true }
def FnExactClassDependsUptoSaid : Prop := fnExactClassDependsUptoRow.holds Try.pinned (OpenSpec.upto fnExactClassDependsSpec)

/-- 'laws.FnSafeRules', WHERE WHAT IT READS IS OF BULK AT MOST 1048576: true; the input reads as it did. -/
def fnSafeRulesUptoRow : OpenClaim := { program := "ytimdefbpoddoaaa", sum := "d4feb08ff0810dc05945fe026d65372d1b3df38987b35c437716a4006be0ce31", func := "loop.example/g00984/laws.FnSafeRules", spec := "fnSafeRules", unfollowed := true, recurses := true, apart := false, narrowed := true }
def FnSafeRulesUptoSaid : Prop := fnSafeRulesUptoRow.holds Try.pinned (OpenSpec.upto fnSafeRulesSpec)

/-- 'laws.FnSplitSafe', WHERE WHAT IT READS IS OF BULK AT MOST 1048576: true; the input reads as it did. -/
def fnSplitSafeUptoRow : OpenClaim := { program := "ytimdefbpoddoaaa", sum := "d4feb08ff0810dc05945fe026d65372d1b3df38987b35c437716a4006be0ce31", func := "loop.example/g00984/laws.FnSplitSafe", spec := "fnSplitSafe", unfollowed := true, recurses := true, apart := false, narrowed := true }
def FnSplitSafeUptoSaid : Prop := fnSplitSafeUptoRow.holds Try.pinned (OpenSpec.upto fnSplitSafeSpec)

/-- 'laws.FnClasses', WHERE WHAT IT READS IS OF BULK AT MOST 1048576: true; the input reads as it did. -/
def fnClassesUptoRow : OpenClaim := { program := "ytimdefbpoddoaaa", sum := "d4feb08ff0810dc05945fe026d65372d1b3df38987b35c437716a4006be0ce31", func := "loop.example/g00984/laws.FnClasses", spec := "fnClasses", unfollowed := true, recurses := true, apart := false, narrowed := true }
def FnClassesUptoSaid : Prop := fnClassesUptoRow.holds Try.pinned (OpenSpec.upto fnClassesSpec)

end Rows
end Go.Proofs.Ytimdefbpoddoaaa
