/- Words for the printed texts of this claim, pruned to those it names; Lean checks them. -/
import Derived.Test.YtaclapojgdekpaaCStepsOfJacobiWFootNe
import Derived.Test.YtaclapojgdekpaaCStepsOfJacobiWInv
namespace Go.Proofs.YtaclapojgdekpaaW.PrintWords
open Go.RowKit
end Go.Proofs.YtaclapojgdekpaaW.PrintWords
namespace Go.Proofs.YtaclapojgdekpaaW.PrintLast
section
variable {ops : Array Oper} {a : Act} {o og : Oper} {g : Nat} {t : Tmp} {u : Bool}
end
end Go.Proofs.YtaclapojgdekpaaW.PrintLast
