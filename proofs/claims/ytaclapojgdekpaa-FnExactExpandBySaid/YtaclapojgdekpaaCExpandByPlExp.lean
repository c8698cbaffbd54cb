/- Part of the proof of the law FnExactExpandBy. -/
import Derived.Test.YtaclapojgdekpaaCExpandByPlBase
import Derived.Test.YtaclapojgdekpaaCExpandByPlJac
import Derived.Test.YtaclapojgdekpaaCExpandByPlMul
import Derived.Test.YtaclapojgdekpaaCExpandByPlPoly
import Derived.Test.YtaclapojgdekpaaCExpandByPlRec
import Derived.Test.YtaclapojgdekpaaCExpandByPlStep
import Derived.Test.YtaclapojgdekpaaCExpandByX0
import Derived.Test.YtaclapojgdekpaaCExpandByX1
import Derived.Test.YtaclapojgdekpaaCExpandByX14
import Derived.Test.YtaclapojgdekpaaCExpandByX16
import Derived.Test.YtaclapojgdekpaaCExpandByX17
import Derived.Test.YtaclapojgdekpaaCExpandByX18
import Derived.Test.YtaclapojgdekpaaCExpandByX19
import Derived.Test.YtaclapojgdekpaaCExpandByX2
import Derived.Test.YtaclapojgdekpaaCExpandByX20
import Derived.Test.YtaclapojgdekpaaCExpandByX5
import Derived.Test.YtaclapojgdekpaaCExpandByX7
import Derived.Test.YtaclapojgdekpaaCExpandByXZ
namespace Go.Proofs.Ytaclapojgdekpaa.Pl
open Go.RowKit Go.Proofs.YtaclapojgdekpaaW.PrintWords Go.Proofs.YtaclapojgdekpaaW.PrintMore Go.Proofs.Ytaclapojgdekpaa.X
set_option linter.unusedVariables false
set_option linter.unusedSimpArgs false

theorem all_InL {lo hi : Int} {l : List Int} : (l.all fun x => decide (lo ≤ x ∧ x ≤ hi)) = true ↔ InL lo hi l := by simp [InL]
def polyB (p : Int) (l : List Int) : Bool := decide (l.length ≤ 25) && ((l.all fun x => decide (0 ≤ x ∧ x ≤ p - 1)) && (decide (l.length = 0) || (rd l ((l.length - 1 : Nat) : Int) != 0)))
theorem IsPoly_eq (p : Int) (l : List Int) (hl : l.length ≤ 9223372036854775806) : impl_IsPoly.f p l = some (polyB p l) := by
  unfold impl_IsPoly.f polyB
  by_cases h : l.length ≤ 25
  · rw [if_pos (by omega), decide_eq_true h, Bool.true_and, all_has]
    simp only [Option.bind_some]
    cases ha : (l.all fun x => decide (0 ≤ x ∧ x ≤ p - 1))
    · simp
    · rw [if_pos rfl, Bool.true_and]
      by_cases h0 : l.length = 0
      · rw [if_pos (by omega), decide_eq_true h0]; rfl
      · rw [if_neg (by omega), wrap_id (by omega) (by omega), if_pos (by omega), if_pos (by omega), decide_eq_false h0, Bool.false_or, show ((l.length : Int) - 1) = ((l.length - 1 : Nat) : Int) by omega]
  · rw [if_neg (by omega), decide_eq_false h, Bool.false_and]
theorem all_drop {l : List Int} {i : Nat} (h : i < l.length) (q : Int → Bool) : (l.drop i).all q = (q l[i] && (l.drop (i + 1)).all q) := by rw [List.drop_eq_getElem_cons h, List.all_cons]
theorem l01Poly_l0 (p : Int) (l : List Int) (hl : l.length ≤ 9223372036854775806) : ∀ (d i K : Nat), i + d = l.length → d < K → spec_l01Poly.l0 K p l i = some (((l.drop i).all fun x => decide (0 ≤ x ∧ x ≤ p - 1)) && (decide (l.length ≤ 25) && (decide (l.length = 0) || (rd l ((l.length - 1 : Nat) : Int) != 0))))
  | 0, i, K, hd, hK => by
    obtain ⟨K, rfl⟩ : ∃ m, K = m + 1 := ⟨K - 1, by omega⟩
    simp only [spec_l01Poly.l0]
    rw [if_neg (by omega), List.drop_eq_nil_of_le (by omega), List.all_nil, Bool.true_and]
    by_cases h : l.length ≤ 25
    · rw [if_pos (by omega), decide_eq_true h, Bool.true_and]
      by_cases h0 : l.length = 0
      · rw [if_pos (by omega), decide_eq_true h0]; rfl
      · rw [if_neg (by omega), wrap_id (by omega) (by omega), if_pos (by omega), if_pos (by omega), decide_eq_false h0, Bool.false_or, show ((l.length : Int) - 1) = ((l.length - 1 : Nat) : Int) by omega]
    · rw [if_neg (by omega), decide_eq_false h, Bool.false_and]
  | d + 1, i, K, hd, hK => by
    obtain ⟨K, rfl⟩ : ∃ m, K = m + 1 := ⟨K - 1, by omega⟩
    have hi : i < l.length := by omega
    simp only [spec_l01Poly.l0]
    rw [if_pos (by omega), if_pos (by omega), all_drop hi, rd_nat hi]
    by_cases h0 : l[i] < 0
    · rw [if_pos h0, decide_eq_false (by omega)]; rfl
    · rw [if_neg h0]
      by_cases h1 : l[i] ≥ p
      · rw [if_pos h1, decide_eq_false (by omega)]; rfl
      · rw [if_neg h1, decide_eq_true (by omega), Bool.true_and, wrap_id (by omega) (by omega)]
        exact l01Poly_l0 p l hl d (i + 1) K (by omega) (by omega)
theorem l01Poly_eq (p : Int) (l : List Int) (hl : l.length ≤ 9223372036854775806) (K : Nat) (hK : l.length < K) : spec_l01Poly.f K p l = some (polyB p l) := by
  have := l01Poly_l0 p l hl l.length 0 K (by omega) hK
  unfold spec_l01Poly.f polyB
  rw [show ((0 : Nat) : Int) = 0 from rfl, List.drop_zero] at this
  rw [this, Bool.and_left_comm]
theorem polyB_iff {p : Int} {l : List Int} (h : polyB p l = true) : l.length ≤ 25 ∧ InL 0 (p - 1) l := by
  unfold polyB at h
  simp only [Bool.and_eq_true, decide_eq_true_eq] at h
  exact ⟨h.1, all_InL.1 h.2.1⟩

noncomputable def expandAns (p : Int) (a b l : List Int) : List Int × Int :=
  if jacB p a b = true ∧ polyB p l = true then if l.length ≤ a.length + 1 then (expL p a b l, 0) else ([], 2) else ([], 1)
theorem ExpandBy_eq (p : Int) (a b l : List Int) (hl : l.length ≤ 1048576) (K : Nat) (hK : 1400001 ≤ K) : impl_ExpandBy.f K p a b l = some (expandAns p a b l) := by
  obtain ⟨K, rfl⟩ : ∃ m, K = m + 1 := ⟨K - 1, by omega⟩
  unfold impl_ExpandBy.f expandAns
  rw [IsJacobi_eq p a b _ (by omega)]
  simp only [Option.bind_some]
  by_cases h : jacB p a b = true
  · have hj := jacB_iff.1 h
    have ht := hj.top
    rw [if_pos h, IsPoly_eq p l (by omega)]
    simp only [Option.bind_some, impl_ExpandBy.j0]
    by_cases hp : polyB p l = true
    · have hq := polyB_iff hp
      rw [if_pos (And.intro h hp), hp]
      simp only [Bool.not_true, Bool.false_eq_true, if_false]
      unfold impl_degree.f impl_length_int64.f impl_Jacobi_size.f impl_length_int64.f impl_Jacobi_field.f
      simp only [Option.bind_some]
      rw [wrap_id (by omega) (by omega)]
      by_cases hn : l.length ≤ a.length + 1
      · rw [if_neg (by omega), if_pos hn, polys_eq hj K (by omega)]
        simp only [Option.bind_some]
        rw [expand_eq hj hq.2 hn K (by omega)]
        rfl
      · rw [if_pos (by omega), if_neg hn]
    · have hp' : polyB p l = false := by simpa using hp
      simp [hp']
  · rw [if_neg h]
    have h' : jacB p a b = false := by simpa using h
    simp [impl_ExpandBy.j0, h']
theorem spec_ExpandBy_eq (p : Int) (a b l : List Int) (hl : l.length ≤ 1048576) (K : Nat) (hK : 1400001 ≤ K) : spec_ExpandBy.f K p a b l = some (expandAns p a b l) := by
  obtain ⟨K, rfl⟩ : ∃ m, K = m + 1 := ⟨K - 1, by omega⟩
  unfold spec_ExpandBy.f expandAns
  rw [l03Is_eq p a b _ (by omega)]
  simp only [Option.bind_some]
  by_cases h : jacB p a b = true
  · have hj := jacB_iff.1 h
    have ht := hj.top
    rw [if_pos h, l01Poly_eq p l (by omega) _ (by omega)]
    simp only [Option.bind_some, spec_ExpandBy.j0]
    by_cases hp : polyB p l = true
    · have hq := polyB_iff hp
      rw [if_pos (And.intro h hp), hp]
      simp only [Bool.not_true, Bool.false_eq_true, if_false]
      rw [wrap_id (by omega) (by omega)]
      by_cases hn : l.length ≤ a.length + 1
      · rw [if_neg (by omega), if_pos hn, Expand_eq hj hq.2 hn K (by omega)]
        rfl
      · rw [if_pos (by omega), if_neg hn]
    · have hp' : polyB p l = false := by simpa using hp
      simp [hp']
  · rw [if_neg h]
    have h' : jacB p a b = false := by simpa using h
    simp [spec_ExpandBy.j0, h']
theorem expandAns_length (p : Int) (a b l : List Int) : (expandAns p a b l).1.length ≤ 100 := by
  unfold expandAns
  split
  · next h =>
    have ht := (jacB_iff.1 h.1).top
    split
    · rw [expL_length]; omega
    · simp
  · simp

end Go.Proofs.Ytaclapojgdekpaa.Pl
