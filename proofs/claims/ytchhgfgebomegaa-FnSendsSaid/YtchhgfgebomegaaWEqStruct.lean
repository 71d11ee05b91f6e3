/- Words that the printed functions use: laws of rows, blocks and rounds, as the print laid them, but only those that this seat's texts come to. No condition. -/
import Derived.Test.YtchhgfgebomegaaWWords
import Derived.Laws.StructEq
/-! ### 53. '==' of structs as_ one Bool -/
namespace Go.Proofs.YtchhgfgebomegaaW.PrintWords
open Go.RowKit
section
variable {P : Program} {d : Nat} {xs ys : Array Value} {f : Field} {fs : List Field} {a b : Value} {r s : Bool} {w : World}
end
end Go.Proofs.YtchhgfgebomegaaW.PrintWords
