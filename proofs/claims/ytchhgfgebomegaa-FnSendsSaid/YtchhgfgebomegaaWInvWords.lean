/- Words that the printed functions use: laws of rows, blocks and rounds, as the print laid them, but only those that this seat's texts come to. No condition. -/
import Derived.Test.YtchhgfgebomegaaWInv
import Derived.Test.YtchhgfgebomegaaWFootNe
namespace Go.Proofs.YtchhgfgebomegaaW.PrintWords
open Go.RowKit
end Go.Proofs.YtchhgfgebomegaaW.PrintWords
namespace Go.Proofs.YtchhgfgebomegaaW.PrintLast
section
variable {ops : Array Oper} {a : Act} {o og : Oper} {g : Nat} {t : Tmp} {u : Bool}
end
end Go.Proofs.YtchhgfgebomegaaW.PrintLast
