/- Part of the proof of the law FnExactExpandDerivative. -/
import Derived.Test.YtaclapojgdekpaaCExpandDerivativePlBase
import Derived.Test.YtaclapojgdekpaaCExpandDerivativePlJac
import Derived.Test.YtaclapojgdekpaaCExpandDerivativePlMul
import Derived.Test.YtaclapojgdekpaaCExpandDerivativePlPoly
import Derived.Test.YtaclapojgdekpaaCExpandDerivativePlRec
import Derived.Test.YtaclapojgdekpaaCExpandDerivativePlStep
import Derived.Test.YtaclapojgdekpaaCExpandDerivativeX0
import Derived.Test.YtaclapojgdekpaaCExpandDerivativeX1
import Derived.Test.YtaclapojgdekpaaCExpandDerivativeX14
import Derived.Test.YtaclapojgdekpaaCExpandDerivativeX16
import Derived.Test.YtaclapojgdekpaaCExpandDerivativeX17
import Derived.Test.YtaclapojgdekpaaCExpandDerivativeX18
import Derived.Test.YtaclapojgdekpaaCExpandDerivativeX19
import Derived.Test.YtaclapojgdekpaaCExpandDerivativeX2
import Derived.Test.YtaclapojgdekpaaCExpandDerivativeX5
import Derived.Test.YtaclapojgdekpaaCExpandDerivativeX6
import Derived.Test.YtaclapojgdekpaaCExpandDerivativeX7
import Derived.Test.YtaclapojgdekpaaCExpandDerivativeXZ
namespace Go.Proofs.Ytaclapojgdekpaa.Pl
open Go.RowKit Go.Proofs.YtaclapojgdekpaaW.PrintWords Go.Proofs.YtaclapojgdekpaaW.PrintMore Go.Proofs.Ytaclapojgdekpaa.X
set_option linter.unusedVariables false
set_option linter.unusedSimpArgs false

theorem all_drop {l : List Int} {i : Nat} (h : i < l.length) (q : Int → Bool) : (l.drop i).all q = (q l[i] && (l.drop (i + 1)).all q) := by rw [List.drop_eq_getElem_cons h, List.all_cons]
end Go.Proofs.Ytaclapojgdekpaa.Pl
