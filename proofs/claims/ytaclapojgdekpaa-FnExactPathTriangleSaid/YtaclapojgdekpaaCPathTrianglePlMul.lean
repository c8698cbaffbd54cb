/- Part of the proof of the law FnExactPathTriangle. -/
import Derived.Test.YtaclapojgdekpaaCPathTrianglePlBase
import Derived.Test.YtaclapojgdekpaaCPathTrianglePlJac
import Derived.Test.YtaclapojgdekpaaCPathTrianglePlPoly
import Derived.Test.YtaclapojgdekpaaCPathTrianglePlStep
import Derived.Test.YtaclapojgdekpaaCPathTriangleX0
import Derived.Test.YtaclapojgdekpaaCPathTriangleX10
import Derived.Test.YtaclapojgdekpaaCPathTriangleX2
import Derived.Test.YtaclapojgdekpaaCPathTriangleX3
import Derived.Test.YtaclapojgdekpaaCPathTriangleX5
import Derived.Test.YtaclapojgdekpaaCPathTriangleX7
import Derived.Test.YtaclapojgdekpaaCPathTriangleXZ
namespace Go.Proofs.Ytaclapojgdekpaa.Pl
open Go.RowKit Go.Proofs.YtaclapojgdekpaaW.PrintWords Go.Proofs.YtaclapojgdekpaaW.PrintMore Go.Proofs.Ytaclapojgdekpaa.X
set_option linter.unusedVariables false
set_option linter.unusedSimpArgs false

theorem InL_set {lo hi : Int} {l : List Int} (h : InL lo hi l) {n : Nat} {v : Int} (h0 : lo ≤ v) (h1 : v ≤ hi) : InL lo hi (l.set n v) := by
  intro x hx
  rcases List.mem_or_eq_of_mem_set hx with h2 | h2
  · exact h x h2
  · rw [h2]; exact ⟨h0, h1⟩

theorem zeros_InL {p : Int} (hp : 0 < p) (n : Nat) : InL 0 (p - 1) (List.replicate n 0) := by
  intro x hx; rw [List.eq_of_mem_replicate hx]; omega
theorem tmod_pos {p x : Int} (hx : 0 ≤ x) : Int.tmod x p = x % p := Int.tmod_eq_emod_of_nonneg hx
end Go.Proofs.Ytaclapojgdekpaa.Pl
