/- Each function that the law comes to, as a plain function, with the proof that the call in the model gives what that function says (written by a program of this session out of the translation). No condition. -/
import Derived.Test.YtffkmajlelhiaaaProg
import Derived.Below
import Derived.Deep.Draws
import Derived.Deep.AppendLies
import Derived.Maps.AppendAt
import Derived.OwnWalk
import Derived.Laws.BytesArg
import Derived.Laws.MakeOwn
import Derived.Laws.OwnMore
import Derived.Deep.OwnRows
import Derived.Tactics
import Derived.Lib.ConvBytes
import Derived.Laws.Slices
import Derived.WalkKit
import Derived.KernelRfl
import Derived.RowKit3
import Derived.Deep.LoopGhost
import Derived.Deep.QuietTactic
import Derived.BigQuiet
import Derived.WideLaws
import Derived.Deep.DeepCutAuto
import Derived.Deep.CutBlock
import Derived.Deep.RegionHeld3
import Derived.Laws.Rows
import Derived.Lib.AppendStr
import Derived.ArgAppend
import Derived.Laws.IdiomCopy
import Derived.OrdersHeld
import Derived.Laws.BitsLemmas
import Derived.RowKit
import Derived.Test.YtffkmajlelhiaaaWWords
import Derived.Test.YtffkmajlelhiaaaWLast
import Derived.Test.YtffkmajlelhiaaaWTab
import Derived.Test.YtffkmajlelhiaaaWFour
import Derived.Test.YtffkmajlelhiaaaWQPut
import Derived.Test.YtffkmajlelhiaaaWApart
import Derived.Test.YtffkmajlelhiaaaWArr
import Derived.Test.YtffkmajlelhiaaaWZeros
import Derived.Test.YtffkmajlelhiaaaWFoot
import Derived.Test.YtffkmajlelhiaaaWKept
import Derived.Test.YtffkmajlelhiaaaWShare
import Derived.Test.YtffkmajlelhiaaaWN
import Derived.Test.YtffkmajlelhiaaaWFootNe
import Derived.Test.YtffkmajlelhiaaaWAt
import Derived.Test.YtffkmajlelhiaaaWEqStruct
import Derived.Test.YtffkmajlelhiaaaWRepsOne
import Derived.Test.YtffkmajlelhiaaaWInv
import Derived.Test.YtffkmajlelhiaaaWInvWords
import Derived.Test.YtffkmajlelhiaaaWGuard
import Derived.Test.YtffkmajlelhiaaaWNEv
import Derived.Test.YtffkmajlelhiaaaWMore
namespace Go.Proofs.Ytffkmajlelhiaaa.PFnExactVerdictName
open Go.RowKit Go.Proofs.YtffkmajlelhiaaaW.PrintWords Go.Proofs.YtffkmajlelhiaaaW.PrintLast Go.Proofs.YtffkmajlelhiaaaW.PrintMore
attribute [local go_sem] max2_int min2_int max_two min_two max_three min_three max_four min_four   -- for this text's walks alone
set_option linter.unusedVariables false
set_option linter.unusedSimpArgs false



def errW : Option Int → Value
  | none => .nilIface
  | some c => .iface 0 (.int .i64 c)
theorem errW_none : errW none = .nilIface := rfl
theorem errW_some (c : Int) : errW (some c) = .iface 0 (.int .i64 c) := rfl

theorem info9 : (Try.prog.info? 9).map (fun i => (i.zero, i.size, i.bytes)) = some (some (.string ⟨#[]⟩), 1, 16) := by kernel_rfl
-- the values' own types

end Go.Proofs.Ytffkmajlelhiaaa.PFnExactVerdictName
