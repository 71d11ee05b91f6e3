/- Each function that the law comes to, as a plain function, with the proof that the call in the model gives what that function says (written by a program of this session out of the translation). No condition. -/
import Derived.Test.YtlfmckdhmklgpaaProg
import Derived.Below
import Derived.Deep.Draws
import Derived.Deep.AppendLies
import Derived.Maps.AppendAt
import Derived.OwnWalk
import Derived.Laws.BytesArg
import Derived.Laws.MakeOwn
import Derived.Laws.OwnMore
import Derived.Deep.OwnRows
import Derived.Tactics
import Derived.Lib.ConvBytes
import Derived.Laws.Slices
import Derived.WalkKit
import Derived.KernelRfl
import Derived.RowKit3
import Derived.Deep.LoopGhost
import Derived.Deep.QuietTactic
import Derived.BigQuiet
import Derived.WideLaws
import Derived.Deep.DeepCutAuto
import Derived.Deep.CutBlock
import Derived.Deep.RegionHeld3
import Derived.Laws.Rows
import Derived.Lib.AppendStr
import Derived.ArgAppend
import Derived.Laws.IdiomCopy
import Derived.OrdersHeld
import Derived.Laws.BitsLemmas
import Derived.RowKit
import Derived.Test.YtlfmckdhmklgpaaWWords
import Derived.Test.YtlfmckdhmklgpaaWLast
import Derived.Test.YtlfmckdhmklgpaaWTab
import Derived.Test.YtlfmckdhmklgpaaWFour
import Derived.Test.YtlfmckdhmklgpaaWQPut
import Derived.Test.YtlfmckdhmklgpaaWApart
import Derived.Test.YtlfmckdhmklgpaaWArr
import Derived.Test.YtlfmckdhmklgpaaWZeros
import Derived.Test.YtlfmckdhmklgpaaWFoot
import Derived.Test.YtlfmckdhmklgpaaWKept
import Derived.Test.YtlfmckdhmklgpaaWShare
import Derived.Test.YtlfmckdhmklgpaaWN
import Derived.Test.YtlfmckdhmklgpaaWFootNe
import Derived.Test.YtlfmckdhmklgpaaWAt
import Derived.Test.YtlfmckdhmklgpaaWEqStruct
import Derived.Test.YtlfmckdhmklgpaaWRepsOne
import Derived.Test.YtlfmckdhmklgpaaWInv
import Derived.Test.YtlfmckdhmklgpaaWInvWords
import Derived.Test.YtlfmckdhmklgpaaWGuard
import Derived.Test.YtlfmckdhmklgpaaWNEv
import Derived.Test.YtlfmckdhmklgpaaWMore
namespace Go.Proofs.Ytlfmckdhmklgpaa.PFnExactSplitClasses
open Go.RowKit Go.Proofs.YtlfmckdhmklgpaaW.PrintWords Go.Proofs.YtlfmckdhmklgpaaW.PrintLast Go.Proofs.YtlfmckdhmklgpaaW.PrintMore
attribute [local go_sem] max2_int min2_int max_two min_two max_three min_three max_four min_four   -- for this text's walks alone
set_option linter.unusedVariables false
set_option linter.unusedSimpArgs false



def errW : Option Int → Value
  | none => .nilIface
  | some c => .iface 0 (.int .i64 c)
theorem errW_none : errW none = .nilIface := rfl
theorem errW_some (c : Int) : errW (some c) = .iface 0 (.int .i64 c) := rfl

theorem info3 : (Try.prog.info? 3).map (fun i => (i.zero, i.size, i.bytes)) = some (some (.int .i64 0), 1, 8) := by kernel_rfl
-- the values' own types

end Go.Proofs.Ytlfmckdhmklgpaa.PFnExactSplitClasses
