/- Words for the printed texts of this claim, pruned to those it names; Lean checks them. -/
import Derived.Test.YtaclapojgdekpaaCNewDeskWWords
namespace Go.Proofs.YtaclapojgdekpaaW.PrintWords
open Go.RowKit
section
variable {P : Program} {ops : Array Oper} {rest : List Oper} {o : Oper} {a : Act} {Q : Exit → Act → World → Prop} {W : World}
end
end Go.Proofs.YtaclapojgdekpaaW.PrintWords
