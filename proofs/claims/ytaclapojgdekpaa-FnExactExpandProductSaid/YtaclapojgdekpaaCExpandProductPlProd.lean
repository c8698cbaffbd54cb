/- Part of the proof of the law FnExactExpandProduct. -/
import Derived.Test.YtaclapojgdekpaaCExpandProductPlBase
import Derived.Test.YtaclapojgdekpaaCExpandProductPlExp
import Derived.Test.YtaclapojgdekpaaCExpandProductPlJac
import Derived.Test.YtaclapojgdekpaaCExpandProductPlMul
import Derived.Test.YtaclapojgdekpaaCExpandProductPlPoly
import Derived.Test.YtaclapojgdekpaaCExpandProductPlRec
import Derived.Test.YtaclapojgdekpaaCExpandProductPlStep
import Derived.Test.YtaclapojgdekpaaCExpandProductX0
import Derived.Test.YtaclapojgdekpaaCExpandProductX1
import Derived.Test.YtaclapojgdekpaaCExpandProductX14
import Derived.Test.YtaclapojgdekpaaCExpandProductX16
import Derived.Test.YtaclapojgdekpaaCExpandProductX17
import Derived.Test.YtaclapojgdekpaaCExpandProductX18
import Derived.Test.YtaclapojgdekpaaCExpandProductX19
import Derived.Test.YtaclapojgdekpaaCExpandProductX2
import Derived.Test.YtaclapojgdekpaaCExpandProductX22
import Derived.Test.YtaclapojgdekpaaCExpandProductX25
import Derived.Test.YtaclapojgdekpaaCExpandProductX26
import Derived.Test.YtaclapojgdekpaaCExpandProductX5
import Derived.Test.YtaclapojgdekpaaCExpandProductX7
import Derived.Test.YtaclapojgdekpaaCExpandProductX8
import Derived.Test.YtaclapojgdekpaaCExpandProductXZ
namespace Go.Proofs.Ytaclapojgdekpaa.Pl
open Go.RowKit Go.Proofs.YtaclapojgdekpaaW.PrintWords Go.Proofs.YtaclapojgdekpaaW.PrintMore Go.Proofs.Ytaclapojgdekpaa.X
set_option linter.unusedVariables false
set_option linter.unusedSimpArgs false

theorem l10Code_l0 {p : Int} {a b l : List Int} (hn : a.length ≤ 12) (hl : l.length ≤ 100) : ∀ (d i K : Nat), i + d = l.length → d < K → spec_l10Code.l0 K l i p a b = some (if ((l.drop i).all fun x => decide (0 ≤ x ∧ x ≤ (a.length : Int))) = true then 0 else 2)
  | 0, i, K, hd, hK => by
    obtain ⟨K, rfl⟩ : ∃ m, K = m + 1 := ⟨K - 1, by omega⟩
    simp only [spec_l10Code.l0]
    rw [if_neg (by omega), List.drop_eq_nil_of_le (by omega)]; rfl
  | d + 1, i, K, hd, hK => by
    obtain ⟨K, rfl⟩ : ∃ m, K = m + 1 := ⟨K - 1, by omega⟩
    have hi : i < l.length := by omega
    simp only [spec_l10Code.l0]
    rw [if_pos (by omega), if_pos (by omega), all_drop hi, rd_nat hi, l01In_eq]
    simp only [Option.bind_some]
    by_cases h0 : 0 ≤ l[i] ∧ l[i] ≤ (a.length : Int)
    · rw [decide_eq_true h0, if_pos rfl, Bool.true_and, wrap_id (by omega) (by omega)]
      exact l10Code_l0 hn hl d (i + 1) K (by omega) (by omega)
    · rw [decide_eq_false h0]; rfl
theorem l10Code_eq (p : Int) (a b l : List Int) (hl : l.length ≤ 100) (K : Nat) (hK : 200 ≤ K) : spec_l10Code.f K p a b l = some (if jacB p a b = true then if (l.all fun x => decide (0 ≤ x ∧ x ≤ (a.length : Int))) = true then 0 else 2 else 1) := by
  unfold spec_l10Code.f
  rw [l03Is_eq p a b K hK]
  simp only [Option.bind_some]
  by_cases h : jacB p a b = true
  · rw [if_pos h, if_pos h]
    exact l10Code_l0 (jacB_iff.1 h).top hl l.length 0 K (by omega) (by omega)
  · rw [if_neg h, if_neg h]

noncomputable def prodAns (p : Int) (a b : List Int) (k l : Int) : List Int × Int :=
  if jacB p a b = true then if 0 ≤ k ∧ 0 ≤ l ∧ k + l ≤ (a.length : Int) then (expL p a b (mulL p (PolL p a b k.toNat) (PolL p a b l.toNat)), 0) else ([], 2) else ([], 1)
theorem prod_fits {p : Int} {a b : List Int} (h : JacP p a b) (m n : Nat) (hmn : m + n ≤ a.length) : InL 0 (p - 1) (mulL p (PolL p a b m) (PolL p a b n)) ∧ (mulL p (PolL p a b m) (PolL p a b n)).length ≤ a.length + 1 := by
  have hp := h.prime.1
  have h1 := (PolL_ok (p := p) (a := a) (b := b) (by omega) m).len
  have h2 := (PolL_ok (p := p) (a := a) (b := b) (by omega) n).len
  have h3 := mulL_length p (PolL p a b m) (PolL p a b n)
  exact ⟨mulL_InL (by omega) _ _, by omega⟩
theorem ExpandProduct_eq (p : Int) (a b : List Int) (k l : Int) (ha : a.length ≤ 1048576) (hk0 : -9223372036854775808 ≤ k) (hk1 : k ≤ 9223372036854775807) (K : Nat) (hK : 1400001 ≤ K) : impl_ExpandProduct.f K p a b k l = some (prodAns p a b k l) := by
  obtain ⟨K, rfl⟩ : ∃ m, K = m + 1 := ⟨K - 1, by omega⟩
  unfold impl_ExpandProduct.f prodAns impl_Jacobi_size.f impl_length_int64.f
  simp only [Option.bind_some, within_eq]
  by_cases h : jacB p a b = true
  · have hj := jacB_iff.1 h
    have ht := hj.top
    have hp := hj.prime.1
    have hp1 := hj.prime.2.1
    rw [if_pos h]
    by_cases hk : 0 ≤ k ∧ k ≤ (a.length : Int)
    · rw [decide_eq_true hk, if_pos rfl, wrap_id (x := (a.length : Int) - k) (by omega) (by omega), jacobiCode_eq p a b _ _ (by omega)]
      simp only [Option.bind_some]
      rw [if_pos h]
      by_cases hl : 0 ≤ l ∧ l ≤ (a.length : Int) - k
      · rw [decide_eq_true hl, if_pos rfl, if_pos (by omega)]
        obtain ⟨m, rfl⟩ : ∃ m : Nat, k = m := ⟨k.toNat, by omega⟩
        obtain ⟨n, rfl⟩ : ∃ m : Nat, l = m := ⟨l.toNat, by omega⟩
        obtain ⟨q1, q2⟩ := prod_fits hj m n (by omega)
        have h1 := PolL_ok (p := p) (a := a) (b := b) (by omega) m
        have h2 := PolL_ok (p := p) (a := a) (b := b) (by omega) n
        have h3 := h1.len
        have h4 := h2.len
        simp only [impl_ExpandProduct.j0, impl_Jacobi_field.f, Option.bind_some]
        rw [if_pos trivial, polys_eq hj K (by omega)]
        simp only [Option.bind_some]
        rw [if_pos (by omega), if_pos (by rw [PolsL_length]; omega), if_pos (by omega), if_pos (by rw [PolsL_length]; omega), PolsL_rd (by omega), PolsL_rd (by omega), product_eq (by omega) hp1 h1.inl h2.inl (by omega) (by omega) K (by omega)]
        simp only [Option.bind_some]
        rw [expand_eq hj q1 q2 K (by omega)]
        rfl
      · rw [decide_eq_false hl, if_neg (by decide), if_neg (by omega)]
        simp [impl_ExpandProduct.j0]
    · rw [decide_eq_false hk, if_neg (by decide), jacobiCode_eq p a b _ _ (by omega)]
      simp only [Option.bind_some]
      rw [if_pos h, if_neg (by decide), if_neg (by omega)]
      simp [impl_ExpandProduct.j0]
  · rw [if_neg h]
    split
    · rw [jacobiCode_eq p a b _ _ (by omega)]
      simp only [Option.bind_some]
      rw [if_neg h]
      simp [impl_ExpandProduct.j0]
    · rw [jacobiCode_eq p a b _ _ (by omega)]
      simp only [Option.bind_some]
      rw [if_neg h]
      simp [impl_ExpandProduct.j0]
theorem spec_ExpandProduct_eq (p : Int) (a b : List Int) (k l : Int) (ha : a.length ≤ 1048576) (K : Nat) (hK : 1400002 ≤ K) : spec_ExpandProduct.f K p a b k l = some (prodAns p a b k l) := by
  obtain ⟨K, rfl⟩ : ∃ m, K = m + 2 := ⟨K - 2, by omega⟩
  unfold spec_ExpandProduct.f prodAns
  rw [l10Code_eq p a b [k, l] (by simp) _ (by omega)]
  simp only [Option.bind_some]
  by_cases h : jacB p a b = true
  · have hj := jacB_iff.1 h
    have ht := hj.top
    have hp := hj.prime.1
    have hp1 := hj.prime.2.1
    rw [if_pos h, if_pos h]
    simp only [List.all_cons, List.all_nil, Bool.and_true, Bool.and_eq_true, decide_eq_true_eq]
    by_cases hk : (0 ≤ k ∧ k ≤ (a.length : Int)) ∧ (0 ≤ l ∧ l ≤ (a.length : Int))
    · rw [if_pos hk, if_pos rfl, wrap_id (x := k + l) (by omega) (by omega)]
      simp only [spec_ExpandProduct.j0, decide_eq_true_eq]
      by_cases hs : k + l > (a.length : Int)
      · rw [if_pos hs, if_neg (by omega)]
        simp [spec_ExpandProduct.j1]
      · rw [if_neg hs, if_pos (by omega)]
        obtain ⟨m, rfl⟩ : ∃ m : Nat, k = m := ⟨k.toNat, by omega⟩
        obtain ⟨n, rfl⟩ : ∃ m : Nat, l = m := ⟨l.toNat, by omega⟩
        obtain ⟨q1, q2⟩ := prod_fits hj m n (by omega)
        have h1 := PolL_ok (p := p) (a := a) (b := b) (by omega) m
        have h2 := PolL_ok (p := p) (a := a) (b := b) (by omega) n
        have h3 := h1.len
        have h4 := h2.len
        simp only [spec_ExpandProduct.j1]
        rw [if_pos trivial, Poly_eq hj m (by omega) K (by omega), Poly_eq hj n (by omega) K (by omega)]
        simp only [Option.bind_some]
        rw [Times_eq (by omega) hp1 h1.inl h2.inl (by omega) (by omega) K (by omega)]
        simp only [Option.bind_some]
        rw [Expand_eq hj q1 q2 K (by omega)]
        rfl
    · rw [if_neg hk, if_neg (by decide), if_neg (by omega)]
      simp [spec_ExpandProduct.j0, spec_ExpandProduct.j1]
  · rw [if_neg h, if_neg h]
    simp [spec_ExpandProduct.j0, spec_ExpandProduct.j1]
theorem prodAns_length (p : Int) (a b : List Int) (k l : Int) : (prodAns p a b k l).1.length ≤ 100 := by
  unfold prodAns
  split
  · next h =>
    have hj := jacB_iff.1 h
    have ht := hj.top
    split
    · next hk =>
      have := (prod_fits hj k.toNat l.toNat (by omega)).2
      simp only [expL_length]
      omega
    · simp
  · simp

end Go.Proofs.Ytaclapojgdekpaa.Pl
