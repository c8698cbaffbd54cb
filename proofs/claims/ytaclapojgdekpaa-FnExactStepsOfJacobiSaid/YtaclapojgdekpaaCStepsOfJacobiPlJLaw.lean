/- Part of the proof of the law FnExactStepsOfJacobi. -/
import Derived.Test.YtaclapojgdekpaaCStepsOfJacobiPlBase
import Derived.Test.YtaclapojgdekpaaCStepsOfJacobiX0
import Derived.Test.YtaclapojgdekpaaCStepsOfJacobiX1
import Derived.Test.YtaclapojgdekpaaCStepsOfJacobiX10
import Derived.Test.YtaclapojgdekpaaCStepsOfJacobiX14
import Derived.Test.YtaclapojgdekpaaCStepsOfJacobiX5
import Derived.Test.YtaclapojgdekpaaCStepsOfJacobiX7
import Derived.Test.YtaclapojgdekpaaCStepsOfJacobiXZ
namespace Go.Proofs.Ytaclapojgdekpaa.Pl
open Go.RowKit Go.Proofs.YtaclapojgdekpaaW.PrintWords Go.Proofs.Ytaclapojgdekpaa.X
set_option linter.unusedVariables false
set_option linter.unusedSimpArgs false

theorem szJacobi_eq (p : Int) (a b : List Int) (z : Int) (h0 : 0 ≤ z) (h1 : z ≤ 1048576) (ha : a.length ≤ 9223372036854775807) (hb : b.length ≤ 9223372036854775807) :
    laws_szJacobi.f p a b z = some (if (a.length : Int) + b.length ≤ z then z - a.length - b.length else -1) := by
  unfold laws_szJacobi.f
  rw [szInt64S_eq a z h0 h1 ha]
  simp only [Option.bind_some]
  by_cases hl : (a.length : Int) ≤ z
  · rw [if_pos hl, if_neg (by omega), szInt64S_eq b _ (by omega) (by omega) hb]
    simp only [Option.bind_some]
    by_cases hm : (b.length : Int) ≤ z - a.length
    · rw [if_pos hm, if_neg (by omega), if_pos (by omega)]
    · rw [if_neg hm, if_pos (by omega), if_neg (by omega)]
  · rw [if_neg hl, if_pos (by omega), if_neg (by omega)]
theorem toJacobi_eq (p : Int) (a b : List Int) (k : Nat) (ha : a.length ≤ 1048576) (hb : b.length ≤ 1048576) (hk : 1048576 < k) : laws_toJacobi.f k p a b = some (p, a, b) := by
  unfold laws_toJacobi.f
  rw [toInt64S_eq a k (by omega) (by omega), Option.bind_some, toInt64S_eq b k (by omega) (by omega), Option.bind_some]
theorem eqJacobi_refl (p : Int) (a b : List Int) (k : Nat) (ha : a.length ≤ 1048576) (hb : b.length ≤ 1048576) (hk : 1048576 < k) : laws_eqJacobi.f k p a b p a b = some true := by
  unfold laws_eqJacobi.f
  rw [if_pos rfl, eqInt64S_refl a k (by omega) (by omega), Option.bind_some, if_pos rfl, eqInt64S_refl b k (by omega) (by omega), Option.bind_some, if_pos rfl]
theorem markJacobi_eq (p : Int) (a b : List Int) (m : Int) (k : Nat) (h0 : 0 ≤ m) (h1 : m ≤ 1000000000) (ha : a.length ≤ 1048576) (hb : b.length ≤ 1048576) (hk : 1048576 < k) :
    laws_markJacobi.f k p a b m = some (m + a.length + b.length, marks m a.length, marks (m + a.length) b.length) := by
  unfold laws_markJacobi.f
  rw [markInt64S_eq a m k h0 (by omega) (by omega), Option.bind_some]
  simp only
  rw [markInt64S_eq b _ k (by omega) (by omega) (by omega), Option.bind_some]
end Go.Proofs.Ytaclapojgdekpaa.Pl
