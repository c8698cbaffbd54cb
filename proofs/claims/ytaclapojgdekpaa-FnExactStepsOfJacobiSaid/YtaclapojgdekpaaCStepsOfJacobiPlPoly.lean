/- Part of the proof of the law FnExactStepsOfJacobi. -/
import Derived.Test.YtaclapojgdekpaaCStepsOfJacobiPlBase
import Derived.Test.YtaclapojgdekpaaCStepsOfJacobiPlJac
import Derived.Test.YtaclapojgdekpaaCStepsOfJacobiPlStep
import Derived.Test.YtaclapojgdekpaaCStepsOfJacobiX0
import Derived.Test.YtaclapojgdekpaaCStepsOfJacobiX10
import Derived.Test.YtaclapojgdekpaaCStepsOfJacobiX2
import Derived.Test.YtaclapojgdekpaaCStepsOfJacobiX3
import Derived.Test.YtaclapojgdekpaaCStepsOfJacobiX5
import Derived.Test.YtaclapojgdekpaaCStepsOfJacobiX7
import Derived.Test.YtaclapojgdekpaaCStepsOfJacobiXZ
namespace Go.Proofs.Ytaclapojgdekpaa.Pl
open Go.RowKit Go.Proofs.YtaclapojgdekpaaW.PrintWords Go.Proofs.YtaclapojgdekpaaW.PrintMore Go.Proofs.Ytaclapojgdekpaa.X
set_option linter.unusedVariables false
set_option linter.unusedSimpArgs false

theorem Own_eq (f : List Int) (hn : f.length ≤ 10000000) : spec_l01Own.f f = some f := by
  unfold spec_l01Own.f
  simp only [Option.bind_some, List.length_nil, List.nil_append]
  rw [if_pos (by omega)]
end Go.Proofs.Ytaclapojgdekpaa.Pl
