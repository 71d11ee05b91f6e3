/- Words that the printed functions use: laws of rows, blocks and rounds, as the print laid them, but only those that this seat's texts come to. No condition. -/
import Derived.Test.YthmfjdanmbcgbaaWInv
import Derived.Test.YthmfjdanmbcgbaaWFootNe
namespace Go.Proofs.YthmfjdanmbcgbaaW.PrintWords
open Go.RowKit
end Go.Proofs.YthmfjdanmbcgbaaW.PrintWords
namespace Go.Proofs.YthmfjdanmbcgbaaW.PrintLast
section
variable {ops : Array Oper} {a : Act} {o og : Oper} {g : Nat} {t : Tmp} {u : Bool}
end
end Go.Proofs.YthmfjdanmbcgbaaW.PrintLast
