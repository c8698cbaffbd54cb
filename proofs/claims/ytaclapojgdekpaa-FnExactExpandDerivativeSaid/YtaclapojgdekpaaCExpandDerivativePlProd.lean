/- Part of the proof of the law FnExactExpandDerivative. -/
import Derived.Test.YtaclapojgdekpaaCExpandDerivativePlBase
import Derived.Test.YtaclapojgdekpaaCExpandDerivativePlExp
import Derived.Test.YtaclapojgdekpaaCExpandDerivativePlJac
import Derived.Test.YtaclapojgdekpaaCExpandDerivativePlMul
import Derived.Test.YtaclapojgdekpaaCExpandDerivativePlPoly
import Derived.Test.YtaclapojgdekpaaCExpandDerivativePlRec
import Derived.Test.YtaclapojgdekpaaCExpandDerivativePlStep
import Derived.Test.YtaclapojgdekpaaCExpandDerivativeX0
import Derived.Test.YtaclapojgdekpaaCExpandDerivativeX15
import Derived.Test.YtaclapojgdekpaaCExpandDerivativeX16
import Derived.Test.YtaclapojgdekpaaCExpandDerivativeX17
import Derived.Test.YtaclapojgdekpaaCExpandDerivativeX18
import Derived.Test.YtaclapojgdekpaaCExpandDerivativeX19
import Derived.Test.YtaclapojgdekpaaCExpandDerivativeX2
import Derived.Test.YtaclapojgdekpaaCExpandDerivativeX22
import Derived.Test.YtaclapojgdekpaaCExpandDerivativeX31
import Derived.Test.YtaclapojgdekpaaCExpandDerivativeX32
import Derived.Test.YtaclapojgdekpaaCExpandDerivativeX5
import Derived.Test.YtaclapojgdekpaaCExpandDerivativeX7
import Derived.Test.YtaclapojgdekpaaCExpandDerivativeXZ
namespace Go.Proofs.Ytaclapojgdekpaa.Pl
open Go.RowKit Go.Proofs.YtaclapojgdekpaaW.PrintWords Go.Proofs.YtaclapojgdekpaaW.PrintMore Go.Proofs.Ytaclapojgdekpaa.X
set_option linter.unusedVariables false
set_option linter.unusedSimpArgs false

theorem l10Code_l0 {p : Int} {a b l : List Int} (hn : a.length ≤ 12) (hl : l.length ≤ 100) : ∀ (d i K : Nat), i + d = l.length → d < K → spec_l10Code.l0 K l i p a b = some (if ((l.drop i).all fun x => decide (0 ≤ x ∧ x ≤ (a.length : Int))) = true then 0 else 2)
  | 0, i, K, hd, hK => by
    obtain ⟨K, rfl⟩ : ∃ m, K = m + 1 := ⟨K - 1, by omega⟩
    simp only [spec_l10Code.l0]
    rw [if_neg (by omega), List.drop_eq_nil_of_le (by omega)]; rfl
  | d + 1, i, K, hd, hK => by
    obtain ⟨K, rfl⟩ : ∃ m, K = m + 1 := ⟨K - 1, by omega⟩
    have hi : i < l.length := by omega
    simp only [spec_l10Code.l0]
    rw [if_pos (by omega), if_pos (by omega), all_drop hi, rd_nat hi, l01In_eq]
    simp only [Option.bind_some]
    by_cases h0 : 0 ≤ l[i] ∧ l[i] ≤ (a.length : Int)
    · rw [decide_eq_true h0, if_pos rfl, Bool.true_and, wrap_id (by omega) (by omega)]
      exact l10Code_l0 hn hl d (i + 1) K (by omega) (by omega)
    · rw [decide_eq_false h0]; rfl
theorem l10Code_eq (p : Int) (a b l : List Int) (hl : l.length ≤ 100) (K : Nat) (hK : 200 ≤ K) : spec_l10Code.f K p a b l = some (if jacB p a b = true then if (l.all fun x => decide (0 ≤ x ∧ x ≤ (a.length : Int))) = true then 0 else 2 else 1) := by
  unfold spec_l10Code.f
  rw [l03Is_eq p a b K hK]
  simp only [Option.bind_some]
  by_cases h : jacB p a b = true
  · rw [if_pos h, if_pos h]
    exact l10Code_l0 (jacB_iff.1 h).top hl l.length 0 K (by omega) (by omega)
  · rw [if_neg h, if_neg h]

def derU (p : Int) (f : List Int) (n : Nat) : List Int := (List.range n).map fun i => ((i + 1 : Nat) : Int) * rd f ((i + 1 : Nat) : Int) % p
def derL (p : Int) (f : List Int) : List Int := tr (derU p f (f.length - 1))
theorem derU_succ (p : Int) (f : List Int) (n : Nat) : derU p f (n + 1) = derU p f n ++ [((n + 1 : Nat) : Int) * rd f ((n + 1 : Nat) : Int) % p] := by simp [derU, List.range_succ]
theorem derU_length (p : Int) (f : List Int) (n : Nat) : (derU p f n).length = n := by simp [derU]
theorem derL_ok {p : Int} (hp : 0 < p) (f : List Int) : InL 0 (p - 1) (derL p f) ∧ (derL p f).length ≤ f.length - 1 := by
  refine ⟨tr_InL fun x hx => ?_, ?_⟩
  · simp only [derU, List.mem_map] at hx
    obtain ⟨i, _, rfl⟩ := hx
    have := mod_lt (p := p) (x := ((i + 1 : Nat) : Int) * rd f ((i + 1 : Nat) : Int)) hp
    omega
  · have := tr_length (derU p f (f.length - 1))
    rw [derU_length] at this
    exact this
theorem derivative_l0 {p : Int} {f : List Int} (hp : 0 < p) (hp1 : p ≤ 10007) (hf : InL 0 (p - 1) f) (hfl : f.length ≤ 1000) (h0 : 1 ≤ f.length) : ∀ (d j K : Nat), j + d = f.length - 1 → d + 2000 < K → impl_field_derivative.l0 K p f (derU p f j) ((j + 1 : Nat) : Int) = some (derL p f)
  | 0, j, K, hd, hK => by
    obtain ⟨K, rfl⟩ : ∃ m, K = m + 1 := ⟨K - 1, by omega⟩
    simp only [impl_field_derivative.l0]
    rw [if_neg (by omega), show j = f.length - 1 by omega, trimmed_eq _ _ (by rw [derU_length]; omega) (by rw [derU_length]; omega)]
    rfl
  | d + 1, j, K, hd, hK => by
    obtain ⟨K, rfl⟩ : ∃ m, K = m + 1 := ⟨K - 1, by omega⟩
    have hx := InL_rd hf (i := j + 1) (by omega)
    simp only [impl_field_derivative.l0]
    rw [if_pos (by omega), if_pos (by omega), fmul_eq p _ _ hp hp1 (by omega) (by omega) hx.1 (by omega)]
    simp only [Option.bind_some]
    rw [if_pos (by rw [derU_length]; omega), ← derU_succ, wrap_id (by omega) (by omega)]
    exact derivative_l0 hp hp1 hf hfl h0 d (j + 1) K (by omega) (by omega)
theorem Derive_l0 {p : Int} {f : List Int} (hp : 0 < p) (hp1 : p ≤ 10007) (hf : InL 0 (p - 1) f) (hfl : f.length ≤ 1000) (h0 : 1 ≤ f.length) : ∀ (d j K : Nat), j + d = f.length - 1 → d + 2000 < K → spec_l01Derive.l0 K p f (derU p f j) ((j + 1 : Nat) : Int) = some (derL p f)
  | 0, j, K, hd, hK => by
    obtain ⟨K, rfl⟩ : ∃ m, K = m + 1 := ⟨K - 1, by omega⟩
    simp only [spec_l01Derive.l0]
    rw [if_neg (by omega), show j = f.length - 1 by omega, Trim_eq _ _ (by rw [derU_length]; omega) (by rw [derU_length]; omega)]
    rfl
  | d + 1, j, K, hd, hK => by
    obtain ⟨K, rfl⟩ : ∃ m, K = m + 1 := ⟨K - 1, by omega⟩
    have hx := InL_rd hf (i := j + 1) (by omega)
    simp only [spec_l01Derive.l0]
    rw [if_pos (by omega), if_pos (by omega), if_neg (by omega), tmod_mul (by omega) (by omega) hx.1 (by omega)]
    rw [if_pos (by rw [derU_length]; omega), ← derU_succ, wrap_id (by omega) (by omega)]
    exact Derive_l0 hp hp1 hf hfl h0 d (j + 1) K (by omega) (by omega)
noncomputable def derAns (p : Int) (a b : List Int) (k : Int) : List Int × Int :=
  if jacB p a b = true then if 0 ≤ k ∧ k ≤ (a.length : Int) then (expL p a b (derL p (PolL p a b k.toNat)), 0) else ([], 2) else ([], 1)
theorem ExpandDerivative_eq (p : Int) (a b : List Int) (k : Int) (K : Nat) (hK : 1400001 ≤ K) : impl_ExpandDerivative.f K p a b k = some (derAns p a b k) := by
  unfold impl_ExpandDerivative.f derAns impl_Jacobi_size.f impl_length_int64.f
  simp only [Option.bind_some, within_eq]
  rw [jacobiCode_eq p a b _ _ (by omega)]
  simp only [Option.bind_some]
  by_cases h : jacB p a b = true
  · have hj := jacB_iff.1 h
    have ht := hj.top
    have hp := hj.prime.1
    have hp1 := hj.prime.2.1
    rw [if_pos h, if_pos h]
    by_cases hk : 0 ≤ k ∧ k ≤ (a.length : Int)
    · rw [decide_eq_true hk, if_pos rfl, if_pos hk, if_pos rfl]
      obtain ⟨m, rfl⟩ : ∃ m : Nat, k = m := ⟨k.toNat, by omega⟩
      have h1 := PolL_ok (p := p) (a := a) (b := b) (by omega) m
      have h3 := h1.len
      have hd := derL_ok (p := p) (by omega) (PolL p a b m)
      simp only [impl_Jacobi_field.f, Option.bind_some]
      rw [polys_eq hj K (by omega)]
      simp only [Option.bind_some]
      rw [if_pos (by omega), if_pos (by rw [PolsL_length]; omega), PolsL_rd (by omega)]
      have := derivative_l0 (p := p) (by omega) hp1 h1.inl (by omega) (by omega) ((PolL p a b m).length - 1) 0 K (by omega) (by omega)
      unfold impl_field_derivative.f
      rw [show ((0 + 1 : Nat) : Int) = 1 from rfl, show derU p (PolL p a b m) 0 = [] from rfl] at this
      rw [this]
      simp only [Option.bind_some]
      rw [expand_eq hj hd.1 (by omega) K (by omega)]
      rfl
    · rw [decide_eq_false hk, if_neg (by decide), if_neg hk, if_neg (by decide)]
  · rw [if_neg h, if_neg h, if_neg (by decide)]
theorem spec_ExpandDerivative_eq (p : Int) (a b : List Int) (k : Int) (K : Nat) (hK : 1400001 ≤ K) : spec_ExpandDerivative.f K p a b k = some (derAns p a b k) := by
  unfold spec_ExpandDerivative.f derAns
  rw [l10Code_eq p a b [k] (by simp) _ (by omega)]
  simp only [Option.bind_some, List.all_cons, List.all_nil, Bool.and_true, decide_eq_true_eq]
  by_cases h : jacB p a b = true
  · have hj := jacB_iff.1 h
    have ht := hj.top
    have hp := hj.prime.1
    have hp1 := hj.prime.2.1
    rw [if_pos h, if_pos h]
    by_cases hk : 0 ≤ k ∧ k ≤ (a.length : Int)
    · rw [if_pos hk, if_pos rfl, if_pos hk]
      obtain ⟨m, rfl⟩ : ∃ m : Nat, k = m := ⟨k.toNat, by omega⟩
      have h1 := PolL_ok (p := p) (a := a) (b := b) (by omega) m
      have h3 := h1.len
      have hd := derL_ok (p := p) (by omega) (PolL p a b m)
      rw [Poly_eq hj m (by omega) K (by omega)]
      simp only [Option.bind_some]
      have := Derive_l0 (p := p) (by omega) hp1 h1.inl (by omega) (by omega) ((PolL p a b m).length - 1) 0 K (by omega) (by omega)
      unfold spec_l01Derive.f
      rw [show ((0 + 1 : Nat) : Int) = 1 from rfl, show derU p (PolL p a b m) 0 = [] from rfl] at this
      rw [this]
      simp only [Option.bind_some]
      rw [Expand_eq hj hd.1 (by omega) K (by omega)]
      rfl
    · rw [if_neg hk, if_neg hk, if_neg (by decide)]
  · rw [if_neg h, if_neg h, if_neg (by decide)]
theorem derAns_length (p : Int) (a b : List Int) (k : Int) : (derAns p a b k).1.length ≤ 100 := by
  unfold derAns
  split
  · next h =>
    have hj := jacB_iff.1 h
    have ht := hj.top
    have hp := hj.prime.1
    split
    · next hk =>
      have h1 := (PolL_ok (p := p) (a := a) (b := b) (by omega) k.toNat).len
      have := (derL_ok (p := p) (by omega) (PolL p a b k.toNat)).2
      simp only [expL_length]
      omega
    · simp
  · simp
end Go.Proofs.Ytaclapojgdekpaa.Pl
