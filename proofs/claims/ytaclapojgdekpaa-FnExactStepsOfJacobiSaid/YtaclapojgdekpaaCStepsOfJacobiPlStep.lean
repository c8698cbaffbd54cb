/- Part of the proof of the law FnExactStepsOfJacobi. -/
import Derived.Test.YtaclapojgdekpaaCStepsOfJacobiPlBase
import Derived.Test.YtaclapojgdekpaaCStepsOfJacobiPlJac
import Derived.Test.YtaclapojgdekpaaCStepsOfJacobiX0
import Derived.Test.YtaclapojgdekpaaCStepsOfJacobiX10
import Derived.Test.YtaclapojgdekpaaCStepsOfJacobiX12
import Derived.Test.YtaclapojgdekpaaCStepsOfJacobiX13
import Derived.Test.YtaclapojgdekpaaCStepsOfJacobiX14
import Derived.Test.YtaclapojgdekpaaCStepsOfJacobiX5
import Derived.Test.YtaclapojgdekpaaCStepsOfJacobiX7
import Derived.Test.YtaclapojgdekpaaCStepsOfJacobiXZ
namespace Go.Proofs.Ytaclapojgdekpaa.Pl
open Go.RowKit Go.Proofs.YtaclapojgdekpaaW.PrintWords Go.Proofs.Ytaclapojgdekpaa.X
set_option linter.unusedVariables false
set_option linter.unusedSimpArgs false

def stepAt (p c : Int) (a b : List Int) : Nat → Nat → Int → Option (List Int × List Int)
  | 0, _, _ => some ([], [])
  | d + 1, i, e =>
    let q := (rd a i - c - e) % p
    if q = 0 then none else
      let e' := rd b (i + 1 : Nat) * inv p q % p
      (stepAt p c a b d (i + 1) e').map fun z => ((q + e' + c) % p :: z.1, (if i = 0 then rd b (0 : Nat) * q % p else q * e % p) :: z.2)
def stepR (p c : Int) (a b : List Int) : Option (List Int × List Int) := if a.length < 2 then none else stepAt p c a b (a.length - 1) 0 0

theorem InL_rd {lo top : Int} {l : List Int} (h : InL lo top l) {i : Nat} (hi : i < l.length) : lo ≤ rd l i ∧ rd l i ≤ top := by
  rw [rd_nat hi]; exact h _ (List.getElem_mem hi)

theorem stepAt_length {p c : Int} {a b : List Int} : ∀ (d i : Nat) (e : Int) (z : List Int × List Int), stepAt p c a b d i e = some z → z.1.length = d ∧ z.2.length = d
  | 0, i, e, z, h => by simp [stepAt] at h; subst h; simp
  | d + 1, i, e, z, h => by
    simp only [stepAt] at h
    split at h
    · cases h
    · rw [Option.map_eq_some_iff] at h
      obtain ⟨s, hs, rfl⟩ := h
      have := stepAt_length d (i + 1) _ s hs
      simp [this]

theorem l08Code_l0 (p lo : Int) (a b l : List Int) (hl : l.length ≤ 100) (hp : -9223372036854775807 ≤ p) (hp1 : p ≤ 9223372036854775807) : ∀ (d k i : Nat), i + d = l.length → d < k → spec_l08Code.l0 k lo l i p a b = some (if (l.drop i).all (fun x => decide (lo ≤ x ∧ x ≤ p - 1)) = true then 0 else 2)
  | 0, k, i, hd, hk => by
    obtain ⟨k, rfl⟩ : ∃ m, k = m + 1 := ⟨k - 1, by omega⟩
    simp only [spec_l08Code.l0]
    rw [if_neg (by omega), List.drop_eq_nil_of_le (by omega)]; simp
  | d + 1, k, i, hd, hk => by
    obtain ⟨k, rfl⟩ : ∃ m, k = m + 1 := ⟨k - 1, by omega⟩
    have hi : i < l.length := by omega
    simp only [spec_l08Code.l0]
    rw [if_pos (by omega), if_pos (by omega), wrap_id (by omega) (by omega), wrap_id (by omega) (by omega), rd_nat hi, l01In_eq, List.drop_eq_getElem_cons hi]
    simp only [Option.bind_some, List.all_cons]
    by_cases h : lo ≤ l[i] ∧ l[i] ≤ p - 1
    · rw [if_pos (by simpa using h)]
      have := l08Code_l0 p lo a b l hl hp hp1 d k (i + 1) (by omega) (by omega)
      rw [show (i : Int) + 1 = ((i + 1 : Nat) : Int) from rfl, this]
      simp [h]
    · rw [if_neg (by simpa using h)]
      simp only [decide_eq_false h, Bool.false_and]
      rfl
theorem l08Code_eq (p lo : Int) (a b l : List Int) (hl : l.length ≤ 100) (k : Nat) (hk : 300 ≤ k) : spec_l08Code.f k p a b lo l = some (if jacB p a b = true then if l.all (fun x => decide (lo ≤ x ∧ x ≤ p - 1)) = true then 0 else 2 else 1) := by
  unfold spec_l08Code.f
  rw [l03Is_eq p a b k (by omega)]
  simp only [Option.bind_some]
  by_cases h : jacB p a b = true
  · have hp := (jacB_iff.1 h).prime.1
    have hp1 := (jacB_iff.1 h).prime.2.1
    rw [if_pos h, if_pos h]
    have := l08Code_l0 p lo a b l hl (by omega) (by omega) l.length k 0 (by omega) (by omega)
    simpa using this
  · rw [if_neg h, if_neg h]
end Go.Proofs.Ytaclapojgdekpaa.Pl
