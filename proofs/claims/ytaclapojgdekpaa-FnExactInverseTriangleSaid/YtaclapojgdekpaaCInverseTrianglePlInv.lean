/- Part of the proof of the law FnExactInverseTriangle. -/
import Derived.Test.YtaclapojgdekpaaCInverseTrianglePlBase
import Derived.Test.YtaclapojgdekpaaCInverseTrianglePlJac
import Derived.Test.YtaclapojgdekpaaCInverseTrianglePlMul
import Derived.Test.YtaclapojgdekpaaCInverseTrianglePlPoly
import Derived.Test.YtaclapojgdekpaaCInverseTrianglePlRec
import Derived.Test.YtaclapojgdekpaaCInverseTrianglePlStep
import Derived.Test.YtaclapojgdekpaaCInverseTriangleX28
import Derived.Test.YtaclapojgdekpaaCInverseTriangleX5
import Derived.Test.YtaclapojgdekpaaCInverseTriangleXHInverse
namespace Go.Proofs.Ytaclapojgdekpaa.Pl
open Go.RowKit Go.Proofs.YtaclapojgdekpaaW.PrintWords Go.Proofs.YtaclapojgdekpaaW.PrintMore Go.Proofs.Ytaclapojgdekpaa.X
set_option linter.unusedVariables false
set_option linter.unusedSimpArgs false
noncomputable def invAns (p : Int) (a b : List Int) : List (List Int) × Int := if jacB p a b = true then (PolsL p a b a.length, 0) else ([], 1)
theorem size_eq' (p : Int) (a b : List Int) : impl_Jacobi_size.f p a b = some (a.length : Int) := rfl
theorem InverseTriangle_eq (p : Int) (a b : List Int) (K : Nat) (hK : 1300000 ≤ K) : impl_InverseTriangle.f K p a b = some (invAns p a b) := by
  unfold impl_InverseTriangle.f invAns
  rw [jacobiCode_eq p a b _ _ (by omega)]
  simp only [Option.bind_some]
  by_cases h : jacB p a b = true
  · have hj := jacB_iff.1 h
    have ht := hj.top
    simp only [h, if_true]
    rw [polys_eq hj K (by omega), Option.bind_some, size_eq', Option.bind_some, Option.bind_some, if_pos (by omega), if_pos (by rw [PolsL_length]; omega)]
    rw [PolsL_succ, show ((a.length : Int)).toNat = (PolsL p a b a.length).length by rw [PolsL_length]; rfl, List.take_left']
    rfl
  · rw [if_neg h, if_neg h, if_neg (by decide)]
theorem spec_InverseTriangle_l0 {p : Int} {a b : List Int} (h : JacP p a b) : ∀ (d n K : Nat), n + d = a.length → d + 1200003 ≤ K → spec_InverseTriangle.l0 K (PolsL p a b n) n p a b = some (PolsL p a b a.length, 0)
  | 0, n, K, hd, hK => by
    obtain ⟨K, rfl⟩ : ∃ m, K = m + 1 := ⟨K - 1, by omega⟩
    simp only [spec_InverseTriangle.l0]
    rw [if_neg (by omega), show n = a.length by omega]
  | d + 1, n, K, hd, hK => by
    obtain ⟨K, rfl⟩ : ∃ m, K = m + 1 := ⟨K - 1, by omega⟩
    have ht := h.top
    simp only [spec_InverseTriangle.l0]
    rw [if_pos (by omega), Poly_eq h n (by omega) K (by omega), Option.bind_some, if_pos (by rw [PolsL_length]; omega), wrap_id (by omega) (by omega), show ((n : Int) + 1) = ((n + 1 : Nat) : Int) by omega, ← PolsL_succ]
    exact spec_InverseTriangle_l0 h d (n + 1) K (by omega) (by omega)
theorem spec_InverseTriangle_eq (p : Int) (a b : List Int) (K : Nat) (hK : 1300000 ≤ K) : spec_InverseTriangle.f K p a b = some (invAns p a b) := by
  unfold spec_InverseTriangle.f invAns
  rw [l03Is_eq p a b _ (by omega), Option.bind_some]
  by_cases h : jacB p a b = true
  · have hj := jacB_iff.1 h
    have ht := hj.top
    rw [if_pos h, if_pos h]
    exact spec_InverseTriangle_l0 hj a.length 0 K (by omega) (by omega)
  · rw [if_neg h, if_neg h]
theorem invAns_length (p : Int) (a b : List Int) : (invAns p a b).1.length ≤ 12 ∧ ∀ r ∈ (invAns p a b).1, r.length ≤ 13 := by
  unfold invAns
  split
  · next h =>
    have hj := jacB_iff.1 h
    have ht := hj.top
    have hp := hj.prime.1
    refine ⟨by simp only [PolsL_length]; omega, fun r hr => ?_⟩
    simp only [PolsL, List.mem_map, List.mem_range] at hr
    obtain ⟨n, hn, rfl⟩ := hr
    have := (PolL_ok (p := p) (a := a) (b := b) (by omega) n).1
    omega
  · simp
end Go.Proofs.Ytaclapojgdekpaa.Pl
