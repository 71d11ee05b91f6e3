/- Words that the printed functions use: laws of rows, blocks and rounds, as the print laid them, but only those that this seat's texts come to. No condition. -/
import Derived.Test.YtimdefbpoddoaaaGreatWN
/-! ### 52. A row that stays read whatever happens to a block (a set of blocks) doesn't lie there -/
namespace Go.Proofs.YtimdefbpoddoaaaGreatW.PrintWords
open Go.RowKit
namespace Kd
section
variable {α : Type} {d : Kd α} {W : World} {g n : Nat} {S ok : Nat → Prop} {A : Option Addr} {ad : Addr} {xs : List α}
end
end Kd
end Go.Proofs.YtimdefbpoddoaaaGreatW.PrintWords
