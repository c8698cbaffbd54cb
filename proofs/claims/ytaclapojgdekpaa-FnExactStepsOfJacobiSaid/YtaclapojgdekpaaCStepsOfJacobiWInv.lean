/- Words for the printed texts of this claim, pruned to those it names; Lean checks them. -/
import Derived.Test.YtaclapojgdekpaaCStepsOfJacobiWTab
namespace Go.Proofs.YtaclapojgdekpaaW.PrintLast
section
variable {P : Program} {ops : Array Oper} {Q : Exit → Act → World → Prop} {md : Region.Mode} {T : Bool × List (List Nat × List Nat)} {B : List Nat} {O : List Nat} {b : Nat → Bool} {i j n : Nat}
end
end Go.Proofs.YtaclapojgdekpaaW.PrintLast
