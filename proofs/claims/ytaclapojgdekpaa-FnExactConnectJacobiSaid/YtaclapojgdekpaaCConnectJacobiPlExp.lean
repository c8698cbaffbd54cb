/- Part of the proof of the law FnExactConnectJacobi. -/
import Derived.Test.YtaclapojgdekpaaCConnectJacobiPlBase
import Derived.Test.YtaclapojgdekpaaCConnectJacobiPlJac
import Derived.Test.YtaclapojgdekpaaCConnectJacobiPlMul
import Derived.Test.YtaclapojgdekpaaCConnectJacobiPlPoly
import Derived.Test.YtaclapojgdekpaaCConnectJacobiPlRec
import Derived.Test.YtaclapojgdekpaaCConnectJacobiPlStep
import Derived.Test.YtaclapojgdekpaaCConnectJacobiX0
import Derived.Test.YtaclapojgdekpaaCConnectJacobiX1
import Derived.Test.YtaclapojgdekpaaCConnectJacobiX14
import Derived.Test.YtaclapojgdekpaaCConnectJacobiX16
import Derived.Test.YtaclapojgdekpaaCConnectJacobiX17
import Derived.Test.YtaclapojgdekpaaCConnectJacobiX18
import Derived.Test.YtaclapojgdekpaaCConnectJacobiX19
import Derived.Test.YtaclapojgdekpaaCConnectJacobiX2
import Derived.Test.YtaclapojgdekpaaCConnectJacobiX5
import Derived.Test.YtaclapojgdekpaaCConnectJacobiX6
import Derived.Test.YtaclapojgdekpaaCConnectJacobiX7
import Derived.Test.YtaclapojgdekpaaCConnectJacobiXZ
namespace Go.Proofs.Ytaclapojgdekpaa.Pl
open Go.RowKit Go.Proofs.YtaclapojgdekpaaW.PrintWords Go.Proofs.YtaclapojgdekpaaW.PrintMore Go.Proofs.Ytaclapojgdekpaa.X
set_option linter.unusedVariables false
set_option linter.unusedSimpArgs false

theorem all_drop {l : List Int} {i : Nat} (h : i < l.length) (q : Int → Bool) : (l.drop i).all q = (q l[i] && (l.drop (i + 1)).all q) := by rw [List.drop_eq_getElem_cons h, List.all_cons]
end Go.Proofs.Ytaclapojgdekpaa.Pl
