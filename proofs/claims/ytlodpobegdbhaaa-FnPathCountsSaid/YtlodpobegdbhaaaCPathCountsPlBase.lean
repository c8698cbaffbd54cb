/- Part of the proof of the law FnPathCounts. -/
import Derived.Test.YtlodpobegdbhaaaCPathCountsX0
namespace Go.Proofs.Ytlodpobegdbhaaa.Pl
open Go.RowKit Go.Proofs.YtlodpobegdbhaaaW.PrintWords Go.Proofs.YtlodpobegdbhaaaW.PrintMore Go.Proofs.Ytlodpobegdbhaaa.X
set_option linter.unusedVariables false
set_option linter.unusedSimpArgs false
theorem wrap_id {x : Int} (h0 : -9223372036854775808 ≤ x) (h1 : x ≤ 9223372036854775807) : wrap64 x = x := by unfold wrap64; omega
theorem rd_nat {l : List Int} {i : Nat} (h : i < l.length) : rd l (i : Int) = l[i] := by
  simp [rd, List.getD_eq_getElem?_getD, List.getElem?_eq_getElem h]
end Go.Proofs.Ytlodpobegdbhaaa.Pl
