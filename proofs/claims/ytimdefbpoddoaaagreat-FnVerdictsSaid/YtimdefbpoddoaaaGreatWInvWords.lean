/- Words that the printed functions use: laws of rows, blocks and rounds, as the print laid them, but only those that this seat's texts come to. No condition. -/
import Derived.Test.YtimdefbpoddoaaaGreatWInv
import Derived.Test.YtimdefbpoddoaaaGreatWFootNe
namespace Go.Proofs.YtimdefbpoddoaaaGreatW.PrintWords
open Go.RowKit
theorem Kd.R_slice1 {α : Type} {d : Kd α} {e base : Nat} {ok : Nat → Prop} {w : World} {v : Value} {xs : List α} (h : d.R e w base ok v xs) (hn : 0 < xs.length) : ∃ (ad : Addr) (c : Nat), v = .slice (some ad) xs.length c := by
  obtain ⟨A, c, rfl⟩ := Kd.R_slice h
  have h2 := (Kd.R_reads' h).2.2
  obtain ⟨ad, he, _⟩ := h2.2.2 hn
  subst he
  exact ⟨ad, c, rfl⟩
end Go.Proofs.YtimdefbpoddoaaaGreatW.PrintWords
namespace Go.Proofs.YtimdefbpoddoaaaGreatW.PrintLast
section
variable {ops : Array Oper} {a : Act} {o og : Oper} {g : Nat} {t : Tmp} {u : Bool}
end
end Go.Proofs.YtimdefbpoddoaaaGreatW.PrintLast
