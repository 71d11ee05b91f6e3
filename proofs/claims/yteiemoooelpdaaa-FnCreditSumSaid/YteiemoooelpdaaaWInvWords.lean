import Derived.Test.YteiemoooelpdaaaWInv
import Derived.Test.YteiemoooelpdaaaWFootNe
namespace Go.Proofs.YteiemoooelpdaaaW.PrintWords
open Go.RowKit
end Go.Proofs.YteiemoooelpdaaaW.PrintWords
namespace Go.Proofs.YteiemoooelpdaaaW.PrintLast
section
variable {ops : Array Oper} {a : Act} {o og : Oper} {g : Nat} {t : Tmp} {u : Bool}
end
end Go.Proofs.YteiemoooelpdaaaW.PrintLast
