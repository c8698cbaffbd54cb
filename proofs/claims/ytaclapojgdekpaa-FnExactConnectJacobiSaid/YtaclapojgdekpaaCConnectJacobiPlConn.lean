/- Part of the proof of the law FnExactConnectJacobi. -/
import Derived.Test.YtaclapojgdekpaaCConnectJacobiPlBase
import Derived.Test.YtaclapojgdekpaaCConnectJacobiPlExp
import Derived.Test.YtaclapojgdekpaaCConnectJacobiPlJac
import Derived.Test.YtaclapojgdekpaaCConnectJacobiPlMul
import Derived.Test.YtaclapojgdekpaaCConnectJacobiPlPoly
import Derived.Test.YtaclapojgdekpaaCConnectJacobiPlProd
import Derived.Test.YtaclapojgdekpaaCConnectJacobiPlRec
import Derived.Test.YtaclapojgdekpaaCConnectJacobiPlStep
import Derived.Test.YtaclapojgdekpaaCConnectJacobiX22
import Derived.Test.YtaclapojgdekpaaCConnectJacobiX23
import Derived.Test.YtaclapojgdekpaaCConnectJacobiX5
namespace Go.Proofs.Ytaclapojgdekpaa.Pl
open Go.RowKit Go.Proofs.YtaclapojgdekpaaW.PrintWords Go.Proofs.YtaclapojgdekpaaW.PrintMore Go.Proofs.Ytaclapojgdekpaa.X
set_option linter.unusedVariables false
set_option linter.unusedSimpArgs false
noncomputable def connAns (p : Int) (a b : List Int) (q : Int) (c d : List Int) (k : Int) : List Int × Int :=
  if jacB p a b = true ∧ jacB q c d = true then if p = q ∧ 0 ≤ k ∧ k ≤ (a.length : Int) ∧ k ≤ (c.length : Int) then (expL q c d (PolL p a b k.toNat), 0) else ([], 2) else ([], 1)
theorem min_int (m n : Nat) : mn (m : Int) (n : Int) = ((min m n : Nat) : Int) := by unfold mn; split <;> omega
theorem ConnectJacobi_eq (p : Int) (a b : List Int) (q : Int) (c d : List Int) (k : Int) (K : Nat) (hK : 1400001 ≤ K) : impl_ConnectJacobi.f K p a b q c d k = some (connAns p a b q c d k) := by
  obtain ⟨K, rfl⟩ : ∃ m, K = m + 1 := ⟨K - 1, by omega⟩
  unfold impl_ConnectJacobi.f connAns
  rw [IsJacobi_eq p a b _ (by omega)]
  simp only [Option.bind_some]
  by_cases h : jacB p a b = true
  · rw [if_pos h, IsJacobi_eq q c d _ (by omega)]
    simp only [Option.bind_some]
    by_cases h2 : jacB q c d = true
    · have hj := jacB_iff.1 h
      have hj2 := jacB_iff.1 h2
      have ht := hj.top
      have ht2 := hj2.top
      have hp := hj.prime.1
      have hp1 := hj.prime.2.1
      rw [if_pos (And.intro h h2), h2]
      simp only [impl_ConnectJacobi.j0, Bool.not_true, Bool.false_eq_true, if_false]
      by_cases hpq : p = q
      · subst hpq
        rw [if_pos rfl]
        unfold impl_Jacobi_size.f impl_length_int64.f
        simp only [Option.bind_some]
        rw [min_int, within_eq]
        simp only [Option.bind_some]
        have e1 := Nat.min_le_left a.length c.length
        have e2 := Nat.min_le_right a.length c.length
        have e3 : a.length ≤ min a.length c.length ∨ c.length ≤ min a.length c.length := by omega
        generalize min a.length c.length = mm at e1 e2 e3 ⊢
        by_cases hk : 0 ≤ k ∧ k ≤ ((mm : Nat) : Int)
        · rw [decide_eq_true hk, if_pos rfl, if_pos (show True ∧ 0 ≤ k ∧ k ≤ (a.length : Int) ∧ k ≤ (c.length : Int) from And.intro trivial (by omega))]
          obtain ⟨m, rfl⟩ : ∃ m : Nat, k = m := ⟨k.toNat, by omega⟩
          have h1 := PolL_ok (p := p) (a := a) (b := b) (by omega) m
          have h3 := h1.len
          simp only [impl_Jacobi_field.f, Option.bind_some]
          rw [polys_eq hj K (by omega)]
          simp only [Option.bind_some]
          rw [if_pos (by omega), if_pos (by rw [PolsL_length]; omega), polys_eq hj2 K (by omega), PolsL_rd (by omega)]
          simp only [Option.bind_some]
          rw [expand_eq hj2 h1.inl (by omega) K (by omega)]
          rfl
        · rw [decide_eq_false hk, if_neg (by decide), if_neg (by omega)]
      · rw [if_neg hpq, if_neg (fun x => hpq x.1)]
    · have h2' : jacB q c d = false := by simpa using h2
      simp [impl_ConnectJacobi.j0, h2']
  · have h' : jacB p a b = false := by simpa using h
    simp [impl_ConnectJacobi.j0, h']
theorem spec_ConnectJacobi_eq (p : Int) (a b : List Int) (q : Int) (c d : List Int) (k : Int) (K : Nat) (hK : 1400002 ≤ K) : spec_ConnectJacobi.f K p a b q c d k = some (connAns p a b q c d k) := by
  obtain ⟨K, rfl⟩ : ∃ m, K = m + 2 := ⟨K - 2, by omega⟩
  unfold spec_ConnectJacobi.f connAns
  rw [l10Code_eq p a b [k] (by simp) _ (by omega), l10Code_eq q c d [k] (by simp) _ (by omega)]
  simp only [Option.bind_some, List.all_cons, List.all_nil, Bool.and_true, decide_eq_true_eq]
  by_cases h : jacB p a b = true
  · by_cases h2 : jacB q c d = true
    · have hj := jacB_iff.1 h
      have hj2 := jacB_iff.1 h2
      have ht := hj.top
      have ht2 := hj2.top
      have hp := hj.prime.1
      have hp1 := hj.prime.2.1
      rw [if_pos h, if_pos h2, if_pos (And.intro h h2)]
      by_cases hk : 0 ≤ k ∧ k ≤ (a.length : Int)
      · rw [if_pos hk]
        by_cases hk2 : 0 ≤ k ∧ k ≤ (c.length : Int)
        · rw [if_pos hk2]
          by_cases hpq : p = q
          · subst hpq
            rw [if_pos (And.intro rfl (And.intro hk.1 (And.intro hk.2 hk2.2)))]
            obtain ⟨m, rfl⟩ : ∃ m : Nat, k = m := ⟨k.toNat, by omega⟩
            have h1 := PolL_ok (p := p) (a := a) (b := b) (by omega) m
            have h3 := h1.len
            simp [spec_ConnectJacobi.j0, spec_ConnectJacobi.j1, Poly_eq hj m (by omega) K (by omega), Expand_eq hj2 h1.inl (by omega) K (by omega)]
          · simp [spec_ConnectJacobi.j0, spec_ConnectJacobi.j1, hpq]
        · rw [if_neg hk2, if_neg (show ¬ (p = q ∧ 0 ≤ k ∧ k ≤ (a.length : Int) ∧ k ≤ (c.length : Int)) by omega)]
          simp [spec_ConnectJacobi.j0, spec_ConnectJacobi.j1]
      · rw [if_neg hk, if_neg (show ¬ (p = q ∧ 0 ≤ k ∧ k ≤ (a.length : Int) ∧ k ≤ (c.length : Int)) by omega)]
        by_cases hk2 : 0 ≤ k ∧ k ≤ (c.length : Int)
        · rw [if_pos hk2]; simp [spec_ConnectJacobi.j0, spec_ConnectJacobi.j1]
        · rw [if_neg hk2]; simp [spec_ConnectJacobi.j0, spec_ConnectJacobi.j1]
    · have h2' : jacB q c d = false := by simpa using h2
      rw [if_pos h, if_neg h2, if_neg (show ¬ (jacB p a b = true ∧ jacB q c d = true) from fun x => h2 x.2)]
      by_cases hk : 0 ≤ k ∧ k ≤ (a.length : Int)
      · rw [if_pos hk]; simp [spec_ConnectJacobi.j0]
      · rw [if_neg hk]; simp [spec_ConnectJacobi.j0]
  · have h' : jacB p a b = false := by simpa using h
    rw [if_neg h, if_neg (show ¬ (jacB p a b = true ∧ jacB q c d = true) from fun x => h x.1)]
    simp [spec_ConnectJacobi.j0]
theorem connAns_length (p : Int) (a b : List Int) (q : Int) (c d : List Int) (k : Int) : (connAns p a b q c d k).1.length ≤ 100 := by
  unfold connAns
  split
  · next h =>
    have hj := jacB_iff.1 h.1
    have ht := hj.top
    have hp := hj.prime.1
    split
    · next hk =>
      have h1 := (PolL_ok (p := p) (a := a) (b := b) (by omega) k.toNat).len
      simp only [expL_length]
      omega
    · simp
  · simp
end Go.Proofs.Ytaclapojgdekpaa.Pl
