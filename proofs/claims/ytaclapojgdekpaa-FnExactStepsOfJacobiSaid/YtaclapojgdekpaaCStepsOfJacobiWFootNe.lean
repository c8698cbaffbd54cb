/- Words for the printed texts of this claim, pruned to those it names; Lean checks them. -/
import Derived.Test.YtaclapojgdekpaaCStepsOfJacobiWN
namespace Go.Proofs.YtaclapojgdekpaaW.PrintWords
open Go.RowKit
namespace Kd
section
variable {α : Type} {d : Kd α} {W : World} {g n : Nat} {S ok : Nat → Prop} {A : Option Addr} {ad : Addr} {xs : List α}
end
end Kd
end Go.Proofs.YtaclapojgdekpaaW.PrintWords
