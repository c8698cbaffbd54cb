/- Part of the proof of the law FnExactInverseTriangle. -/
import Derived.Test.YtaclapojgdekpaaCInverseTrianglePlBase
import Derived.Test.YtaclapojgdekpaaCInverseTriangleX0
import Derived.Test.YtaclapojgdekpaaCInverseTriangleX1
import Derived.Test.YtaclapojgdekpaaCInverseTriangleX10
import Derived.Test.YtaclapojgdekpaaCInverseTriangleX2
import Derived.Test.YtaclapojgdekpaaCInverseTriangleX5
import Derived.Test.YtaclapojgdekpaaCInverseTriangleX6
import Derived.Test.YtaclapojgdekpaaCInverseTriangleX7
import Derived.Test.YtaclapojgdekpaaCInverseTriangleXZ
namespace Go.Proofs.Ytaclapojgdekpaa.Pl
open Go.RowKit Go.Proofs.YtaclapojgdekpaaW.PrintWords Go.Proofs.Ytaclapojgdekpaa.X
set_option linter.unusedVariables false
set_option linter.unusedSimpArgs false

def primeP (p : Int) : Prop := 2 ≤ p ∧ p ≤ 10007 ∧ ∀ d : Nat, 2 ≤ d → (d : Int) * d ≤ p → p % d ≠ 0
noncomputable def primeB (p : Int) : Bool := @decide (primeP p) (Classical.propDecidable _)
theorem IsPrime_l0 (p : Int) (h0 : 2 ≤ p) (h1 : p ≤ 10007) : ∀ (m k i : Nat), 2 ≤ i → i + m = 102 → m < k → (∀ d : Nat, 2 ≤ d → d < i → (d : Int) * d ≤ p → p % d ≠ 0) → impl_IsPrime.l0 k p i = some (primeB p)
  | 0, k, i, hi, hm, hk, hd => by
    obtain ⟨k, rfl⟩ : ∃ m, k = m + 1 := ⟨k - 1, by omega⟩
    obtain rfl : i = 102 := by omega
    simp only [impl_IsPrime.l0]
    rw [wrap_id (by decide) (by decide), if_neg (by omega)]
    have : primeP p := ⟨h0, h1, fun d h2 h3 => by
      by_cases h : d < 102
      · exact hd d h2 h h3
      · exfalso
        have : (102 : Int) * 102 ≤ (d : Int) * d := Int.mul_le_mul (by omega) (by omega) (by omega) (by omega)
        omega⟩
    simp [primeB, this]
  | m + 1, k, i, hi, hm, hk, hd => by
    obtain ⟨k, rfl⟩ : ∃ m, k = m + 1 := ⟨k - 1, by omega⟩
    simp only [impl_IsPrime.l0]
    have hb : (i : Int) * i ≤ 102 * 102 := Int.mul_le_mul (by omega) (by omega) (by omega) (by omega)
    have hb0 : 0 ≤ (i : Int) * i := Int.mul_nonneg (by omega) (by omega)
    rw [wrap_id (by omega) (by omega)]
    by_cases hle : (i : Int) * i ≤ p
    · rw [if_pos hle, if_neg (by omega), Int.tmod_eq_emod_of_nonneg (by omega)]
      by_cases hz : p % i = 0
      · rw [if_pos hz]
        have : ¬ primeP p := fun h => h.2.2 i hi hle hz
        simp [primeB, this]
      · rw [if_neg hz, wrap_id (by omega) (by omega)]
        have := IsPrime_l0 p h0 h1 m k (i + 1) (by omega) (by omega) (by omega) (fun d h2 h3 h4 => by
          by_cases h : d = i
          · subst h; exact hz
          · exact hd d h2 (by omega) h4)
        simpa using this
    · rw [if_neg hle]
      have : primeP p := ⟨h0, h1, fun d h2 h3 => by
        by_cases h : d < i
        · exact hd d h2 h h3
        · exfalso
          have : (i : Int) * i ≤ (d : Int) * d := Int.mul_le_mul (by omega) (by omega) (by omega) (by omega)
          omega⟩
      simp [primeB, this]
theorem IsPrime_eq (p : Int) (k : Nat) (hk : 200 ≤ k) : impl_IsPrime.f k p = some (primeB p) := by
  unfold impl_IsPrime.f impl_within.f
  by_cases h0 : 2 ≤ p
  · by_cases h1 : p ≤ 10007
    · have := IsPrime_l0 p h0 h1 100 k 2 (by omega) (by omega) (by omega) (fun d h2 h3 => by omega)
      simpa [h0, h1] using this
    · have : ¬ primeP p := fun h => h1 h.2.1
      simp [h0, h1, primeB, this]
  · have : ¬ primeP p := fun h => h0 h.1
    simp [h0, primeB, this]
theorem l01Prime_l0 : ∀ (k : Nat) (p i : Int), spec_l01Prime.l0 k p i = impl_IsPrime.l0 k p i
  | 0, _, _ => rfl
  | k + 1, p, i => by simp only [spec_l01Prime.l0, impl_IsPrime.l0, l01Prime_l0 k]
theorem l01Prime_eq (p : Int) (k : Nat) (hk : 200 ≤ k) : spec_l01Prime.f k p = some (primeB p) := by
  rw [← IsPrime_eq p k hk]
  unfold spec_l01Prime.f impl_IsPrime.f spec_l01In.f impl_within.f
  simp only [l01Prime_l0]

theorem mod_lt {p x : Int} (hp : 0 < p) : 0 ≤ x % p ∧ x % p < p := ⟨Int.emod_nonneg _ (by omega), Int.emod_lt_of_pos _ hp⟩
theorem tmod_mod (p x : Int) (hp : 0 < p) : Int.tmod (Int.tmod x p + p) p = x % p := by
  have h1 : -p < Int.tmod x p := by
    exact Int.lt_tmod_of_pos x hp
  have h2 : Int.tmod x p < p := Int.tmod_lt_of_pos x hp
  rw [Int.tmod_eq_emod_of_nonneg (by omega), Int.add_emod_right]
  have h3 : Int.tmod x p = x - p * (Int.tdiv x p) := by rw [Int.tmod_def]
  rw [h3, Int.sub_mul_emod_self_left]
theorem fmod_eq (p x : Int) (hp : 0 < p) (hp1 : p ≤ 10007) : impl_field_mod.f p x = some (x % p) := by
  unfold impl_field_mod.f
  have h1 : -p < Int.tmod x p := Int.lt_tmod_of_pos x hp
  have h2 : Int.tmod x p < p := Int.tmod_lt_of_pos x hp
  rw [if_neg (by omega), wrap_id (by omega) (by omega), tmod_mod p x hp]
theorem l01Mod_eq (p x : Int) (hp : 0 < p) (hp1 : p ≤ 10007) : spec_l01Mod.f p x = some (x % p) := fmod_eq p x hp hp1
theorem prod_bound {x y : Int} (hx0 : 0 ≤ x) (hx : x ≤ 20000) (hy0 : 0 ≤ y) (hy : y ≤ 20000) : 0 ≤ x * y ∧ x * y ≤ 400000000 :=
  ⟨Int.mul_nonneg hx0 hy0, by have : x * y ≤ 20000 * 20000 := Int.mul_le_mul hx hy hy0 (by omega); omega⟩
theorem wrap_mul {x y : Int} (hx0 : 0 ≤ x) (hx : x ≤ 20000) (hy0 : 0 ≤ y) (hy : y ≤ 20000) : wrap64 (x * y) = x * y := by
  have := prod_bound hx0 hx hy0 hy
  exact wrap_id (by omega) (by omega)
def InL (lo hi : Int) (l : List Int) : Prop := ∀ x ∈ l, lo ≤ x ∧ x ≤ hi
structure JacP (p : Int) (a b : List Int) : Prop where
  prime : primeP p
  one : 1 ≤ a.length
  top : a.length ≤ 12
  same : b.length = a.length
  ina : InL 0 (p - 1) a
  inb : InL 1 (p - 1) b
noncomputable def jacB (p : Int) (a b : List Int) : Bool := @decide (JacP p a b) (Classical.propDecidable _)
theorem primeB_iff {p : Int} : primeB p = true ↔ primeP p := by simp [primeB]
theorem jacB_iff {p : Int} {a b : List Int} : jacB p a b = true ↔ JacP p a b := by simp [jacB]
theorem allO_some {α : Type} (g : α → Bool) : ∀ l : List α, allO (fun x => some (g x)) l = some (l.all g)
  | [] => rfl
  | x :: xs => by
    simp only [allO, Option.bind_some, List.all_cons]
    cases h : g x with
    | true => simp [allO_some g xs]
    | false => simp
theorem has_eq (p x : Int) : impl_field_has.f p x = some (decide (0 ≤ x ∧ x ≤ p - 1)) := by
  unfold impl_field_has.f
  by_cases h : 0 ≤ x
  · rw [if_pos h]; congr 1; rw [decide_eq_decide]; omega
  · rw [if_neg h]; simp [h]
theorem within_eq (x lo hi : Int) : impl_within.f x lo hi = some (decide (lo ≤ x ∧ x ≤ hi)) := by
  unfold impl_within.f
  by_cases h : lo ≤ x
  · rw [if_pos h]; simp [h]
  · rw [if_neg h]; simp [h]
theorem l01In_eq (x lo hi : Int) : spec_l01In.f x lo hi = some (decide (lo ≤ x ∧ x ≤ hi)) := within_eq x lo hi
theorem isUnit_eq (p x : Int) (hp : -9223372036854775807 ≤ p) (hp1 : p ≤ 9223372036854775807) : impl_field_isUnit.f p x = some (decide (1 ≤ x ∧ x ≤ p - 1)) := by
  unfold impl_field_isUnit.f
  rw [wrap_id (by omega) (by omega), within_eq]
  rfl
theorem all_has (p : Int) (l : List Int) : impl_areAll_int64_by_impl_field_has.f l p = some (l.all fun x => decide (0 ≤ x ∧ x ≤ p - 1)) := by
  unfold impl_areAll_int64_by_impl_field_has.f
  rw [show (fun x_ => impl_field_has.f p x_) = fun x => some (decide (0 ≤ x ∧ x ≤ p - 1)) from funext fun x => has_eq p x, allO_some]
theorem all_unit (p : Int) (l : List Int) (hp : -9223372036854775807 ≤ p) (hp1 : p ≤ 9223372036854775807) : impl_areAll_int64_by_impl_field_isUnit.f l p = some (l.all fun x => decide (1 ≤ x ∧ x ≤ p - 1)) := by
  unfold impl_areAll_int64_by_impl_field_isUnit.f
  rw [show (fun x_ => impl_field_isUnit.f p x_) = fun x => some (decide (1 ≤ x ∧ x ≤ p - 1)) from funext fun x => isUnit_eq p x hp hp1, allO_some]
theorem InL_all (lo hi : Int) (l : List Int) : (l.all fun x => decide (lo ≤ x ∧ x ≤ hi)) = @decide (InL lo hi l) (Classical.propDecidable _) := by
  rw [Bool.eq_iff_iff, List.all_eq_true]
  simp only [decide_eq_true_eq]
  exact Iff.rfl
theorem IsJacobi_eq (p : Int) (a b : List Int) (k : Nat) (hk : 200 ≤ k) : impl_IsJacobi.f k p a b = some (jacB p a b) := by
  unfold impl_IsJacobi.f impl_Jacobi_size.f impl_length_int64.f impl_Jacobi_field.f
  rw [IsPrime_eq p k hk]
  simp only [Option.bind_some]
  by_cases hp : primeP p
  · rw [if_pos (primeB_iff.2 hp), within_eq]
    simp only [Option.bind_some]
    by_cases hl : 1 ≤ (a.length : Int) ∧ (a.length : Int) ≤ 12
    · rw [if_pos (by simpa using hl)]
      by_cases hs : (b.length : Int) = (a.length : Int)
      · rw [if_pos hs, all_has, InL_all]
        simp only [Option.bind_some]
        by_cases ha : InL 0 (p - 1) a
        · rw [if_pos (by simpa using ha), all_unit p b (by have := hp.1; omega) (by have := hp.2.1; omega), InL_all]
          simp only [Option.bind_some]
          congr 1
          rw [Bool.eq_iff_iff]
          simp only [decide_eq_true_eq, jacB_iff]
          exact ⟨fun hb => ⟨hp, by omega, by omega, by omega, ha, hb⟩, fun h => h.inb⟩
        · rw [if_neg (by simpa using ha)]
          have : ¬ JacP p a b := fun h => ha h.ina
          simp [jacB, this]
      · rw [if_neg hs]
        have : ¬ JacP p a b := fun h => hs (by have := h.same; omega)
        simp [jacB, this]
    · rw [if_neg (by simpa using hl)]
      have : ¬ JacP p a b := fun h => hl (by have := h.one; have := h.top; omega)
      simp [jacB, this]
  · rw [if_neg (by rw [primeB_iff]; exact hp)]
    have : ¬ JacP p a b := fun h => hp h.prime
    simp [jacB, this]
theorem jacobiCode_eq (p : Int) (a b : List Int) (c : Bool) (k : Nat) (hk : 200 ≤ k) : impl_jacobiCode.f k p a b c = some (if jacB p a b = true then if c = true then 0 else 2 else 1) := by
  unfold impl_jacobiCode.f
  rw [IsJacobi_eq p a b k hk]
  simp only [Option.bind_some]
  cases jacB p a b <;> cases c <;> rfl
theorem InL_drop {lo hi : Int} {l : List Int} {i : Nat} (h : i < l.length) : InL lo hi (l.drop i) ↔ (lo ≤ l[i] ∧ l[i] ≤ hi) ∧ InL lo hi (l.drop (i + 1)) := by
  rw [List.drop_eq_getElem_cons h]
  unfold InL
  constructor
  · intro hx
    exact ⟨hx _ List.mem_cons_self, fun x h2 => hx x (List.mem_cons_of_mem _ h2)⟩
  · rintro ⟨h1, h2⟩ x hx
    rcases List.mem_cons.1 hx with rfl | hx
    · exact h1
    · exact h2 x hx
theorem l03Is_l0 (p : Int) (a b : List Int) (hp0 : -9223372036854775807 ≤ p) (hp1 : p ≤ 9223372036854775807) (hl : a.length ≤ 12) (hab : b.length = a.length) : ∀ (d k i : Nat), i + d = a.length → d < k →
    spec_l03Is.l0 k i p a b = some (@decide (InL 0 (p - 1) (a.drop i) ∧ InL 1 (p - 1) (b.drop i)) (Classical.propDecidable _))
  | 0, k, i, hd, hk => by
    obtain ⟨k, rfl⟩ : ∃ m, k = m + 1 := ⟨k - 1, by omega⟩
    simp only [spec_l03Is.l0]
    rw [if_neg (by omega), List.drop_eq_nil_of_le (by omega), List.drop_eq_nil_of_le (by omega)]
    simp [InL]
  | d + 1, k, i, hd, hk => by
    obtain ⟨k, rfl⟩ : ∃ m, k = m + 1 := ⟨k - 1, by omega⟩
    simp only [spec_l03Is.l0]
    have hi : i < a.length := by omega
    have hi2 : i < b.length := by omega
    rw [if_pos (by omega), if_pos (by omega), wrap_id (by omega) (by omega), rd_nat hi, rd_nat hi2, l01In_eq, l01In_eq]
    simp only [Option.bind_some]
    rw [wrap_id (by omega) (by omega)]
    by_cases h1 : 0 ≤ a[i] ∧ a[i] ≤ p - 1
    · rw [if_pos (by simpa using h1), if_pos (by omega)]
      by_cases h2 : 1 ≤ b[i] ∧ b[i] ≤ p - 1
      · rw [if_pos (by simpa using h2)]
        have := l03Is_l0 p a b hp0 hp1 hl hab d k (i + 1) (by omega) (by omega)
        rw [show ((i : Int) + 1) = ((i + 1 : Nat) : Int) from rfl, this]
        congr 1
        rw [Bool.eq_iff_iff]
        simp only [decide_eq_true_eq]
        rw [InL_drop hi, InL_drop hi2]
        exact ⟨fun h => ⟨⟨h1, h.1⟩, ⟨h2, h.2⟩⟩, fun h => ⟨h.1.2, h.2.2⟩⟩
      · rw [if_neg (by simpa using h2)]
        have : ¬ (InL 0 (p - 1) (a.drop i) ∧ InL 1 (p - 1) (b.drop i)) := fun h => h2 ((InL_drop hi2).1 h.2).1
        simp [this]
    · rw [if_neg (by simpa using h1)]
      have : ¬ (InL 0 (p - 1) (a.drop i) ∧ InL 1 (p - 1) (b.drop i)) := fun h => h1 ((InL_drop hi).1 h.1).1
      simp [this]
theorem l03Is_j0 (p : Int) (a b : List Int) (c : Bool) (k : Nat) (hk : 100 ≤ k) (hp : primeP p) (hc : c = false → 1 ≤ a.length ∧ a.length ≤ 12 ∧ b.length = a.length) (hc2 : c = true → ¬ (1 ≤ a.length ∧ a.length ≤ 12 ∧ b.length = a.length)) : spec_l03Is.j0 k c p a b = some (jacB p a b) := by
  obtain ⟨k, rfl⟩ : ∃ m, k = m + 1 := ⟨k - 1, by omega⟩
  simp only [spec_l03Is.j0]
  cases c with
  | true =>
    have : ¬ JacP p a b := fun h => hc2 rfl ⟨h.one, h.top, h.same⟩
    simp [jacB, this]
  | false =>
    obtain ⟨h1, h2, h3⟩ := hc rfl
    have := l03Is_l0 p a b (by have := hp.1; omega) (by have := hp.2.1; omega) h2 h3 a.length k 0 (by omega) (by omega)
    rw [if_neg (by simp)]
    rw [show ((0 : Int)) = ((0 : Nat) : Int) from rfl, this]
    congr 1
    rw [Bool.eq_iff_iff]
    simp only [decide_eq_true_eq, jacB_iff, List.drop_zero]
    exact ⟨fun h => ⟨hp, h1, h2, h3, h.1, h.2⟩, fun h => ⟨h.ina, h.inb⟩⟩
theorem l03Is_eq (p : Int) (a b : List Int) (k : Nat) (hk : 200 ≤ k) : spec_l03Is.f k p a b = some (jacB p a b) := by
  unfold spec_l03Is.f
  rw [l01Prime_eq p k hk]
  simp only [Option.bind_some]
  by_cases hp : primeP p
  · rw [if_pos (primeB_iff.2 hp)]
    by_cases h1 : (a.length : Int) < 1
    · rw [if_pos h1]; exact l03Is_j0 p a b _ k (by omega) hp (by simp) (fun _ => by omega)
    · rw [if_neg h1]
      by_cases h2 : (a.length : Int) > 12
      · rw [if_pos h2]; exact l03Is_j0 p a b _ k (by omega) hp (by simp) (fun _ => by omega)
      · rw [if_neg h2]
        refine l03Is_j0 p a b _ k (by omega) hp (fun h => ?_) (fun h => ?_)
        · simp at h; omega
        · simp at h; omega
  · rw [if_neg (by rw [primeB_iff]; exact hp)]
    obtain ⟨k, rfl⟩ : ∃ m, k = m + 1 := ⟨k - 1, by omega⟩
    have : ¬ JacP p a b := fun h => hp h.prime
    simp [jacB, this, spec_l03Is.j0]
end Go.Proofs.Ytaclapojgdekpaa.Pl
