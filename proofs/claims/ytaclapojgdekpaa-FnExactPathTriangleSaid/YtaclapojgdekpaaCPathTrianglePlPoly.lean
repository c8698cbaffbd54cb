/- Part of the proof of the law FnExactPathTriangle. -/
import Derived.Test.YtaclapojgdekpaaCPathTrianglePlBase
import Derived.Test.YtaclapojgdekpaaCPathTrianglePlJac
import Derived.Test.YtaclapojgdekpaaCPathTrianglePlStep
import Derived.Test.YtaclapojgdekpaaCPathTriangleX0
import Derived.Test.YtaclapojgdekpaaCPathTriangleX10
import Derived.Test.YtaclapojgdekpaaCPathTriangleX2
import Derived.Test.YtaclapojgdekpaaCPathTriangleX3
import Derived.Test.YtaclapojgdekpaaCPathTriangleX5
import Derived.Test.YtaclapojgdekpaaCPathTriangleX7
import Derived.Test.YtaclapojgdekpaaCPathTriangleXZ
namespace Go.Proofs.Ytaclapojgdekpaa.Pl
open Go.RowKit Go.Proofs.YtaclapojgdekpaaW.PrintWords Go.Proofs.YtaclapojgdekpaaW.PrintMore Go.Proofs.Ytaclapojgdekpaa.X
set_option linter.unusedVariables false
set_option linter.unusedSimpArgs false

theorem Own_eq (f : List Int) (hn : f.length ≤ 10000000) : spec_l01Own.f f = some f := by
  unfold spec_l01Own.f
  simp only [Option.bind_some, List.length_nil, List.nil_append]
  rw [if_pos (by omega)]
theorem term_bound {p x k y : Int} (hp1 : p ≤ 10007) (hx0 : 0 ≤ x) (hx : x ≤ p - 1) (hk0 : 0 ≤ k) (hk : k ≤ p - 1) (hy0 : 0 ≤ y) (hy : y ≤ p - 1) : wrap64 (x + wrap64 (k * y)) = x + k * y := by
  have := prod_bound hk0 (by omega) hy0 (by omega)
  rw [wrap_mul hk0 (by omega) hy0 (by omega), wrap_id (by omega) (by omega)]
end Go.Proofs.Ytaclapojgdekpaa.Pl
