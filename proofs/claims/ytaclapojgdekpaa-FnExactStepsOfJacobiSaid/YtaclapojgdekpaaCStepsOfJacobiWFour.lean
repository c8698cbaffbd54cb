/- Words for the printed texts of this claim, pruned to those it names; Lean checks them. -/
import Derived.Test.YtaclapojgdekpaaCStepsOfJacobiWTab
namespace Go.Proofs.YtaclapojgdekpaaW.PrintLast
section
variable {P : Program} {ops : Array Oper} {Q : Exit → Act → World → Prop} {md : Region.Mode} {S : World → Prop} {ds : List Nat} {T : Bool × List (List Nat × List Nat)}
end
end Go.Proofs.YtaclapojgdekpaaW.PrintLast
