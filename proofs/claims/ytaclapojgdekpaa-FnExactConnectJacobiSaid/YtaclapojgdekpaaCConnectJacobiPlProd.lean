/- Part of the proof of the law FnExactConnectJacobi. -/
import Derived.Test.YtaclapojgdekpaaCConnectJacobiPlBase
import Derived.Test.YtaclapojgdekpaaCConnectJacobiPlExp
import Derived.Test.YtaclapojgdekpaaCConnectJacobiPlJac
import Derived.Test.YtaclapojgdekpaaCConnectJacobiPlMul
import Derived.Test.YtaclapojgdekpaaCConnectJacobiPlPoly
import Derived.Test.YtaclapojgdekpaaCConnectJacobiPlRec
import Derived.Test.YtaclapojgdekpaaCConnectJacobiPlStep
import Derived.Test.YtaclapojgdekpaaCConnectJacobiX0
import Derived.Test.YtaclapojgdekpaaCConnectJacobiX1
import Derived.Test.YtaclapojgdekpaaCConnectJacobiX14
import Derived.Test.YtaclapojgdekpaaCConnectJacobiX15
import Derived.Test.YtaclapojgdekpaaCConnectJacobiX16
import Derived.Test.YtaclapojgdekpaaCConnectJacobiX17
import Derived.Test.YtaclapojgdekpaaCConnectJacobiX18
import Derived.Test.YtaclapojgdekpaaCConnectJacobiX19
import Derived.Test.YtaclapojgdekpaaCConnectJacobiX2
import Derived.Test.YtaclapojgdekpaaCConnectJacobiX22
import Derived.Test.YtaclapojgdekpaaCConnectJacobiX5
import Derived.Test.YtaclapojgdekpaaCConnectJacobiX7
import Derived.Test.YtaclapojgdekpaaCConnectJacobiX8
import Derived.Test.YtaclapojgdekpaaCConnectJacobiXZ
namespace Go.Proofs.Ytaclapojgdekpaa.Pl
open Go.RowKit Go.Proofs.YtaclapojgdekpaaW.PrintWords Go.Proofs.YtaclapojgdekpaaW.PrintMore Go.Proofs.Ytaclapojgdekpaa.X
set_option linter.unusedVariables false
set_option linter.unusedSimpArgs false

theorem l10Code_l0 {p : Int} {a b l : List Int} (hn : a.length ≤ 12) (hl : l.length ≤ 100) : ∀ (d i K : Nat), i + d = l.length → d < K → spec_l10Code.l0 K l i p a b = some (if ((l.drop i).all fun x => decide (0 ≤ x ∧ x ≤ (a.length : Int))) = true then 0 else 2)
  | 0, i, K, hd, hK => by
    obtain ⟨K, rfl⟩ : ∃ m, K = m + 1 := ⟨K - 1, by omega⟩
    simp only [spec_l10Code.l0]
    rw [if_neg (by omega), List.drop_eq_nil_of_le (by omega)]; rfl
  | d + 1, i, K, hd, hK => by
    obtain ⟨K, rfl⟩ : ∃ m, K = m + 1 := ⟨K - 1, by omega⟩
    have hi : i < l.length := by omega
    simp only [spec_l10Code.l0]
    rw [if_pos (by omega), if_pos (by omega), all_drop hi, rd_nat hi, l01In_eq]
    simp only [Option.bind_some]
    by_cases h0 : 0 ≤ l[i] ∧ l[i] ≤ (a.length : Int)
    · rw [decide_eq_true h0, if_pos rfl, Bool.true_and, wrap_id (by omega) (by omega)]
      exact l10Code_l0 hn hl d (i + 1) K (by omega) (by omega)
    · rw [decide_eq_false h0]; rfl
theorem l10Code_eq (p : Int) (a b l : List Int) (hl : l.length ≤ 100) (K : Nat) (hK : 200 ≤ K) : spec_l10Code.f K p a b l = some (if jacB p a b = true then if (l.all fun x => decide (0 ≤ x ∧ x ≤ (a.length : Int))) = true then 0 else 2 else 1) := by
  unfold spec_l10Code.f
  rw [l03Is_eq p a b K hK]
  simp only [Option.bind_some]
  by_cases h : jacB p a b = true
  · rw [if_pos h, if_pos h]
    exact l10Code_l0 (jacB_iff.1 h).top hl l.length 0 K (by omega) (by omega)
  · rw [if_neg h, if_neg h]

end Go.Proofs.Ytaclapojgdekpaa.Pl
