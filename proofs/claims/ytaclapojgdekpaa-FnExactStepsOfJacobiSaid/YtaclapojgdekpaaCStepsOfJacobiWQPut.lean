/- Words for the printed texts of this claim, pruned to those it names; Lean checks them. -/
import Derived.Test.YtaclapojgdekpaaCStepsOfJacobiWLast
import Derived.Test.YtaclapojgdekpaaCStepsOfJacobiWWords
namespace Go.Proofs.YtaclapojgdekpaaW.PrintWords
open Go.RowKit
namespace Kd
section
variable {α : Type} {d : Kd α} {e base g o n cap : Nat} {ok okp : Nat → Prop} {w W : World} {v : Value} {xs : List α}
end
section
variable {α : Type} {enc : α → Value} {h1 : ∀ x, (enc x).oneCell' = true} {e base g o n cap : Nat} {ok : Nat → Prop} {W : World} {xs : List α}
end
end Kd
end Go.Proofs.YtaclapojgdekpaaW.PrintWords
