/- Part of the proof of the law FnExactExpandProduct. -/
import Derived.Test.YtaclapojgdekpaaCExpandProductPlBase
import Derived.Test.YtaclapojgdekpaaCExpandProductPlJac
import Derived.Test.YtaclapojgdekpaaCExpandProductPlMul
import Derived.Test.YtaclapojgdekpaaCExpandProductPlPoly
import Derived.Test.YtaclapojgdekpaaCExpandProductPlRec
import Derived.Test.YtaclapojgdekpaaCExpandProductPlStep
import Derived.Test.YtaclapojgdekpaaCExpandProductX0
import Derived.Test.YtaclapojgdekpaaCExpandProductX1
import Derived.Test.YtaclapojgdekpaaCExpandProductX14
import Derived.Test.YtaclapojgdekpaaCExpandProductX16
import Derived.Test.YtaclapojgdekpaaCExpandProductX17
import Derived.Test.YtaclapojgdekpaaCExpandProductX18
import Derived.Test.YtaclapojgdekpaaCExpandProductX19
import Derived.Test.YtaclapojgdekpaaCExpandProductX2
import Derived.Test.YtaclapojgdekpaaCExpandProductX5
import Derived.Test.YtaclapojgdekpaaCExpandProductX6
import Derived.Test.YtaclapojgdekpaaCExpandProductX7
import Derived.Test.YtaclapojgdekpaaCExpandProductXZ
namespace Go.Proofs.Ytaclapojgdekpaa.Pl
open Go.RowKit Go.Proofs.YtaclapojgdekpaaW.PrintWords Go.Proofs.YtaclapojgdekpaaW.PrintMore Go.Proofs.Ytaclapojgdekpaa.X
set_option linter.unusedVariables false
set_option linter.unusedSimpArgs false

theorem all_drop {l : List Int} {i : Nat} (h : i < l.length) (q : Int → Bool) : (l.drop i).all q = (q l[i] && (l.drop (i + 1)).all q) := by rw [List.drop_eq_getElem_cons h, List.all_cons]
end Go.Proofs.Ytaclapojgdekpaa.Pl
