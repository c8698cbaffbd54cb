/- Part of the proof of the law FnExactInverseTriangle. -/
import Derived.Test.YtaclapojgdekpaaCInverseTrianglePlBase
import Derived.Test.YtaclapojgdekpaaCInverseTrianglePlJac
import Derived.Test.YtaclapojgdekpaaCInverseTriangleX0
import Derived.Test.YtaclapojgdekpaaCInverseTriangleX10
import Derived.Test.YtaclapojgdekpaaCInverseTriangleX5
import Derived.Test.YtaclapojgdekpaaCInverseTriangleX7
import Derived.Test.YtaclapojgdekpaaCInverseTriangleXZ
namespace Go.Proofs.Ytaclapojgdekpaa.Pl
open Go.RowKit Go.Proofs.YtaclapojgdekpaaW.PrintWords Go.Proofs.Ytaclapojgdekpaa.X
set_option linter.unusedVariables false
set_option linter.unusedSimpArgs false

theorem InL_rd {lo top : Int} {l : List Int} (h : InL lo top l) {i : Nat} (hi : i < l.length) : lo ≤ rd l i ∧ rd l i ≤ top := by
  rw [rd_nat hi]; exact h _ (List.getElem_mem hi)

end Go.Proofs.Ytaclapojgdekpaa.Pl
