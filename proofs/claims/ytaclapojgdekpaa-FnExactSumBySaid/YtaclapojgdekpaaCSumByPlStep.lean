/- Part of the proof of the law FnExactSumBy. -/
import Derived.Test.YtaclapojgdekpaaCSumByPlBase
import Derived.Test.YtaclapojgdekpaaCSumByPlJac
import Derived.Test.YtaclapojgdekpaaCSumByX0
import Derived.Test.YtaclapojgdekpaaCSumByX5
import Derived.Test.YtaclapojgdekpaaCSumByX7
import Derived.Test.YtaclapojgdekpaaCSumByX8
import Derived.Test.YtaclapojgdekpaaCSumByXZ
namespace Go.Proofs.Ytaclapojgdekpaa.Pl
open Go.RowKit Go.Proofs.YtaclapojgdekpaaW.PrintWords Go.Proofs.Ytaclapojgdekpaa.X
set_option linter.unusedVariables false
set_option linter.unusedSimpArgs false

theorem InL_rd {lo top : Int} {l : List Int} (h : InL lo top l) {i : Nat} (hi : i < l.length) : lo ≤ rd l i ∧ rd l i ≤ top := by
  rw [rd_nat hi]; exact h _ (List.getElem_mem hi)

end Go.Proofs.Ytaclapojgdekpaa.Pl
