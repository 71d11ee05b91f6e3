/- Words that the printed functions use: laws of rows, blocks and rounds, as the print laid them, but only those that this seat's texts come to. No condition. -/
import Derived.Test.YtimdefbpoddoaaaGreatWFootNe
/-! ### 54. Behind orders that were drawn quietly: the same facts at the world's new name; a flat row's foot -/
namespace Go.Proofs.YtimdefbpoddoaaaGreatW.PrintWords
open Go.RowKit
section
variable {w w' u : World} {m B g : Nat} {o : Obj} {row : Option Nat} {S : Nat → Prop} {a : Addr} {v : Value}
end
namespace Kd
section
variable {α : Type} {d : Kd α} {e base n m : Nat} {ok : Nat → Prop} {w w' : World} {v : Value} {A : Option Addr} {xs : List α}
end
end Kd
end Go.Proofs.YtimdefbpoddoaaaGreatW.PrintWords
