/- Part of the proof of the law FnExactValueBy. -/
import Derived.Test.YtaclapojgdekpaaCValueByPlBase
import Derived.Test.YtaclapojgdekpaaCValueByPlJac
import Derived.Test.YtaclapojgdekpaaCValueByPlMul
import Derived.Test.YtaclapojgdekpaaCValueByPlPoly
import Derived.Test.YtaclapojgdekpaaCValueByPlRec
import Derived.Test.YtaclapojgdekpaaCValueByPlStep
import Derived.Test.YtaclapojgdekpaaCValueByX0
import Derived.Test.YtaclapojgdekpaaCValueByX17
import Derived.Test.YtaclapojgdekpaaCValueByX20
import Derived.Test.YtaclapojgdekpaaCValueByX21
import Derived.Test.YtaclapojgdekpaaCValueByX22
import Derived.Test.YtaclapojgdekpaaCValueByX31
import Derived.Test.YtaclapojgdekpaaCValueByX5
import Derived.Test.YtaclapojgdekpaaCValueByX6
import Derived.Test.YtaclapojgdekpaaCValueByX7
import Derived.Test.YtaclapojgdekpaaCValueByXZ
namespace Go.Proofs.Ytaclapojgdekpaa.Pl
open Go.RowKit Go.Proofs.YtaclapojgdekpaaW.PrintWords Go.Proofs.YtaclapojgdekpaaW.PrintMore Go.Proofs.Ytaclapojgdekpaa.X
set_option linter.unusedVariables false
set_option linter.unusedSimpArgs false

theorem all_InL {lo hi : Int} {l : List Int} : (l.all fun x => decide (lo ≤ x ∧ x ≤ hi)) = true ↔ InL lo hi l := by simp [InL]
theorem all_drop {l : List Int} {i : Nat} (h : i < l.length) (q : Int → Bool) : (l.drop i).all q = (q l[i] && (l.drop (i + 1)).all q) := by rw [List.drop_eq_getElem_cons h, List.all_cons]
def sumL (p : Int) (a b : List Int) : List Int → Nat → List Int → List Int
  | [], _, out => out
  | x :: l, i, out => sumL p a b l (i + 1) (addL p out (PolL p a b i) x)
theorem sum_l0 {p : Int} {a b l : List Int} (h : JacP p a b) (hl : InL 0 (p - 1) l) (hn : l.length ≤ a.length + 1) : ∀ (d i K : Nat) (out : List Int), i + d = l.length → InL 0 (p - 1) out → out.length ≤ 900 → d + 4000 < K →
    impl_field_sum.l0 K p (PolsL p a b (a.length + 1)) out l l.length i = some (sumL p a b (l.drop i) i out)
  | 0, i, K, out, hd, ho, hol, hK => by
    obtain ⟨K, rfl⟩ : ∃ m, K = m + 1 := ⟨K - 1, by omega⟩
    simp only [impl_field_sum.l0]
    rw [if_neg (by omega), List.drop_eq_nil_of_le (by omega)]; rfl
  | d + 1, i, K, out, hd, ho, hol, hK => by
    obtain ⟨K, rfl⟩ : ∃ m, K = m + 1 := ⟨K - 1, by omega⟩
    have hi : i < l.length := by omega
    have ht := h.top
    have hp := h.prime.1
    have hp1 := h.prime.2.1
    have hx := InL_rd hl hi
    have hP := PolL_ok (p := p) (a := a) (b := b) (by omega) i
    have hPl := hP.len
    have hal := addL_length p out (PolL p a b i) (rd l (i : Int))
    simp only [impl_field_sum.l0]
    rw [if_pos (by omega), if_pos (by omega), if_pos (by omega), if_pos (by rw [PolsL_length]; omega), PolsL_rd (by omega), add_eq (by omega) hp1 ho hP.inl hx.1 hx.2 (by omega) (by omega) K (by omega)]
    simp only [Option.bind_some]
    rw [wrap_id (by omega) (by omega), show ((i : Int) + 1) = ((i + 1 : Nat) : Int) by omega, sum_l0 h hl hn d (i + 1) K _ (by omega) (addL_InL (by omega) ho) (by omega) (by omega), List.drop_eq_getElem_cons hi, rd_nat hi]
    rfl
theorem Sum_l0 {p : Int} {a b l : List Int} (h : JacP p a b) (hl : InL 0 (p - 1) l) (hn : l.length ≤ a.length + 1) : ∀ (d i K : Nat) (out : List Int), i + d = l.length → InL 0 (p - 1) out → out.length ≤ 900 → d + 1300000 < K →
    spec_l10Sum.l0 K l out i p a b = some (sumL p a b (l.drop i) i out)
  | 0, i, K, out, hd, ho, hol, hK => by
    obtain ⟨K, rfl⟩ : ∃ m, K = m + 1 := ⟨K - 1, by omega⟩
    simp only [spec_l10Sum.l0]
    rw [if_neg (by omega), List.drop_eq_nil_of_le (by omega)]; rfl
  | d + 1, i, K, out, hd, ho, hol, hK => by
    obtain ⟨K, rfl⟩ : ∃ m, K = m + 1 := ⟨K - 1, by omega⟩
    have hi : i < l.length := by omega
    have ht := h.top
    have hp := h.prime.1
    have hp1 := h.prime.2.1
    have hx := InL_rd hl hi
    have hP := PolL_ok (p := p) (a := a) (b := b) (by omega) i
    have hPl := hP.len
    have hal := addL_length p out (PolL p a b i) (rd l (i : Int))
    simp only [spec_l10Sum.l0]
    rw [if_pos (by omega), Poly_eq h i (by omega) K (by omega)]
    simp only [Option.bind_some]
    rw [if_pos (by omega), Add_eq (by omega) hp1 ho hP.inl hx.1 hx.2 (by omega) (by omega) K (by omega)]
    simp only [Option.bind_some]
    rw [wrap_id (by omega) (by omega), show ((i : Int) + 1) = ((i + 1 : Nat) : Int) by omega, Sum_l0 h hl hn d (i + 1) K _ (by omega) (addL_InL (by omega) ho) (by omega) (by omega), List.drop_eq_getElem_cons hi, rd_nat hi]
    rfl
theorem sumL_ok {p : Int} {a b : List Int} (hp : 1 < p) : ∀ (l : List Int) (i : Nat) (out : List Int), InL 0 (p - 1) out → InL 0 (p - 1) (sumL p a b l i out) ∧ (sumL p a b l i out).length ≤ max out.length (i + l.length + 1)
  | [], i, out, ho => ⟨ho, by simp [sumL]; omega⟩
  | x :: l, i, out, ho => by
    have hP := PolL_ok (p := p) (a := a) (b := b) (by omega) i
    have hal := addL_length p out (PolL p a b i) x
    rw [hP.len] at hal
    obtain ⟨h1, h2⟩ := sumL_ok (a := a) (b := b) hp l (i + 1) (addL p out (PolL p a b i) x) (addL_InL (by omega) ho)
    exact ⟨h1, by simp only [sumL, List.length_cons]; omega⟩
theorem nil_InL (lo hi : Int) : InL lo hi [] := fun x hx => by cases hx
theorem l02Numbers_l0 (p : Int) (l : List Int) (hp : 1 < p) (hp1 : p ≤ 10007) (hl : l.length ≤ 1048576) : ∀ (d i K : Nat), i + d = l.length → d < K → spec_l02Numbers.l0 K p l i = some ((l.drop i).all fun x => decide (0 ≤ x ∧ x ≤ p - 1))
  | 0, i, K, hd, hK => by
    obtain ⟨K, rfl⟩ : ∃ m, K = m + 1 := ⟨K - 1, by omega⟩
    simp only [spec_l02Numbers.l0]
    rw [if_neg (by omega), List.drop_eq_nil_of_le (by omega)]; rfl
  | d + 1, i, K, hd, hK => by
    obtain ⟨K, rfl⟩ : ∃ m, K = m + 1 := ⟨K - 1, by omega⟩
    have hi : i < l.length := by omega
    simp only [spec_l02Numbers.l0]
    rw [if_pos (by omega), if_pos (by omega), all_drop hi, rd_nat hi, wrap_id (x := p - 1) (by omega) (by omega), l01In_eq]
    simp only [Option.bind_some]
    by_cases h0 : 0 ≤ l[i] ∧ l[i] ≤ p - 1
    · rw [decide_eq_true h0, if_pos rfl, Bool.true_and, wrap_id (by omega) (by omega)]
      exact l02Numbers_l0 p l hp hp1 hl d (i + 1) K (by omega) (by omega)
    · rw [decide_eq_false h0]; rfl
theorem l02Numbers_eq (p : Int) (l : List Int) (hp : 1 < p) (hp1 : p ≤ 10007) (hl : l.length ≤ 1048576) (K : Nat) (hK : l.length < K) : spec_l02Numbers.f K p l = some (l.all fun x => decide (0 ≤ x ∧ x ≤ p - 1)) :=
  l02Numbers_l0 p l hp hp1 hl l.length 0 K (by omega) hK
noncomputable def listCode (p : Int) (a b l : List Int) (m : Int) : Int := if jacB p a b = true then if (l.length : Int) ≤ a.length + m ∧ (l.all fun x => decide (0 ≤ x ∧ x ≤ p - 1)) = true then 0 else 2 else 1
theorem l10List_eq (p : Int) (a b l : List Int) (m : Int) (hm0 : 0 ≤ m) (hm : m ≤ 10) (hl : l.length ≤ 1048576) (K : Nat) (hK : 1048577 ≤ K) : spec_l10List.f K p a b l m = some (listCode p a b l m) := by
  unfold spec_l10List.f listCode
  rw [l03Is_eq p a b _ (by omega)]
  simp only [Option.bind_some]
  by_cases h : jacB p a b = true
  · have hj := jacB_iff.1 h
    have ht := hj.top
    have hp := hj.prime.1
    rw [if_pos h, if_pos h, wrap_id (by omega) (by omega)]
    by_cases hn : (l.length : Int) ≤ a.length + m
    · rw [if_neg (by omega), l02Numbers_eq p l (by omega) hj.prime.2.1 hl K (by omega)]
      simp only [Option.bind_some]
      by_cases ha : (l.all fun x => decide (0 ≤ x ∧ x ≤ p - 1)) = true
      · rw [if_pos ha, if_pos ⟨hn, ha⟩]
      · rw [if_neg ha, if_neg (fun x => ha x.2)]
    · rw [if_pos (by omega), if_neg (fun x => hn x.1)]
  · rw [if_neg h, if_neg h]
theorem isList_eq {p : Int} {a b l : List Int} {m : Int} (hj : JacP p a b) (K : Nat) (hK : 200 ≤ K) : impl_Jacobi_isList.f K p a b l m = some (decide ((l.length : Int) ≤ m ∧ (l.all fun x => decide (0 ≤ x ∧ x ≤ p - 1)) = true)) := by
  unfold impl_Jacobi_isList.f impl_areNumbers.f impl_length_int64.f
  rw [IsPrime_eq p K hK]
  simp only [Option.bind_some]
  rw [if_pos (primeB_iff.2 hj.prime), within_eq]
  simp only [Option.bind_some]
  by_cases hn : (l.length : Int) ≤ m
  · rw [decide_eq_true (by omega), if_pos rfl, all_has]
    simp only [Option.bind_some, hn, true_and, Bool.decide_eq_true]
  · rw [decide_eq_false (by omega)]
    simp [hn]
theorem isList_some (p : Int) (a b l : List Int) (m : Int) (K : Nat) (hK : 200 ≤ K) : ∃ c, impl_Jacobi_isList.f K p a b l m = some c := by
  unfold impl_Jacobi_isList.f impl_areNumbers.f impl_length_int64.f
  rw [IsPrime_eq p K hK]
  simp only [Option.bind_some, within_eq, all_has]
  split
  · split
    · exact ⟨_, rfl⟩
    · exact ⟨_, rfl⟩
  · exact ⟨_, rfl⟩
theorem listCode_zero {p : Int} {a b l : List Int} {m : Int} (h : listCode p a b l m = 0) : JacP p a b ∧ (l.length : Int) ≤ a.length + m ∧ InL 0 (p - 1) l := by
  unfold listCode at h
  split at h
  · next hj =>
    split at h
    · next hc => exact ⟨jacB_iff.1 hj, hc.1, all_InL.1 hc.2⟩
    · cases h
  · cases h
end Go.Proofs.Ytaclapojgdekpaa.Pl
