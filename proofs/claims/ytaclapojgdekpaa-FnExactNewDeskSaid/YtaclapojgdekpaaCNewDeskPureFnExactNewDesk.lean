/- The pure statement of the law FnExactNewDesk: with some fuel the law answers true; a closed reckoning. -/
import Derived.Test.YtaclapojgdekpaaCNewDeskX45
namespace Go.Proofs.Ytaclapojgdekpaa.Pure
open Go.RowKit Go.Proofs.Ytaclapojgdekpaa.X Go.Proofs.YtaclapojgdekpaaW.PrintWords Go.Proofs.YtaclapojgdekpaaW.PrintLast
set_option maxRecDepth 100000 in
theorem FnExactNewDesk : ∃ k, laws_FnExactNewDesk.f k = some true := ⟨200, by decide +kernel⟩
end Go.Proofs.Ytaclapojgdekpaa.Pure
