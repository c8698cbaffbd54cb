/- Part of the proof of the law FnExactStepsOfJacobi. -/
import Derived.Test.YtaclapojgdekpaaCStepsOfJacobiPlBase
import Derived.Test.YtaclapojgdekpaaCStepsOfJacobiX1
import Derived.Test.YtaclapojgdekpaaCStepsOfJacobiX10
import Derived.Test.YtaclapojgdekpaaCStepsOfJacobiX11
import Derived.Test.YtaclapojgdekpaaCStepsOfJacobiX13
import Derived.Test.YtaclapojgdekpaaCStepsOfJacobiX2
import Derived.Test.YtaclapojgdekpaaCStepsOfJacobiX5
import Derived.Test.YtaclapojgdekpaaCStepsOfJacobiX6
import Derived.Test.YtaclapojgdekpaaCStepsOfJacobiX7
namespace Go.Proofs.Ytaclapojgdekpaa.Pl
open Go.RowKit Go.Proofs.YtaclapojgdekpaaW.PrintWords Go.Proofs.Ytaclapojgdekpaa.X
set_option linter.unusedVariables false
set_option linter.unusedSimpArgs false

def primeP (p : Int) : Prop := 2 ≤ p ∧ p ≤ 10007 ∧ ∀ d : Nat, 2 ≤ d → (d : Int) * d ≤ p → p % d ≠ 0
noncomputable def primeB (p : Int) : Bool := @decide (primeP p) (Classical.propDecidable _)
theorem IsPrime_l0 (p : Int) (h0 : 2 ≤ p) (h1 : p ≤ 10007) : ∀ (m k i : Nat), 2 ≤ i → i + m = 102 → m < k → (∀ d : Nat, 2 ≤ d → d < i → (d : Int) * d ≤ p → p % d ≠ 0) → impl_IsPrime.l0 k p i = some (primeB p)
  | 0, k, i, hi, hm, hk, hd => by
    obtain ⟨k, rfl⟩ : ∃ m, k = m + 1 := ⟨k - 1, by omega⟩
    obtain rfl : i = 102 := by omega
    simp only [impl_IsPrime.l0]
    rw [wrap_id (by decide) (by decide), if_neg (by omega)]
    have : primeP p := ⟨h0, h1, fun d h2 h3 => by
      by_cases h : d < 102
      · exact hd d h2 h h3
      · exfalso
        have : (102 : Int) * 102 ≤ (d : Int) * d := Int.mul_le_mul (by omega) (by omega) (by omega) (by omega)
        omega⟩
    simp [primeB, this]
  | m + 1, k, i, hi, hm, hk, hd => by
    obtain ⟨k, rfl⟩ : ∃ m, k = m + 1 := ⟨k - 1, by omega⟩
    simp only [impl_IsPrime.l0]
    have hb : (i : Int) * i ≤ 102 * 102 := Int.mul_le_mul (by omega) (by omega) (by omega) (by omega)
    have hb0 : 0 ≤ (i : Int) * i := Int.mul_nonneg (by omega) (by omega)
    rw [wrap_id (by omega) (by omega)]
    by_cases hle : (i : Int) * i ≤ p
    · rw [if_pos hle, if_neg (by omega), Int.tmod_eq_emod_of_nonneg (by omega)]
      by_cases hz : p % i = 0
      · rw [if_pos hz]
        have : ¬ primeP p := fun h => h.2.2 i hi hle hz
        simp [primeB, this]
      · rw [if_neg hz, wrap_id (by omega) (by omega)]
        have := IsPrime_l0 p h0 h1 m k (i + 1) (by omega) (by omega) (by omega) (fun d h2 h3 h4 => by
          by_cases h : d = i
          · subst h; exact hz
          · exact hd d h2 (by omega) h4)
        simpa using this
    · rw [if_neg hle]
      have : primeP p := ⟨h0, h1, fun d h2 h3 => by
        by_cases h : d < i
        · exact hd d h2 h h3
        · exfalso
          have : (i : Int) * i ≤ (d : Int) * d := Int.mul_le_mul (by omega) (by omega) (by omega) (by omega)
          omega⟩
      simp [primeB, this]
theorem IsPrime_eq (p : Int) (k : Nat) (hk : 200 ≤ k) : impl_IsPrime.f k p = some (primeB p) := by
  unfold impl_IsPrime.f impl_within.f
  by_cases h0 : 2 ≤ p
  · by_cases h1 : p ≤ 10007
    · have := IsPrime_l0 p h0 h1 100 k 2 (by omega) (by omega) (by omega) (fun d h2 h3 => by omega)
      simpa [h0, h1] using this
    · have : ¬ primeP p := fun h => h1 h.2.1
      simp [h0, h1, primeB, this]
  · have : ¬ primeP p := fun h => h0 h.1
    simp [h0, primeB, this]
theorem l01Prime_l0 : ∀ (k : Nat) (p i : Int), spec_l01Prime.l0 k p i = impl_IsPrime.l0 k p i
  | 0, _, _ => rfl
  | k + 1, p, i => by simp only [spec_l01Prime.l0, impl_IsPrime.l0, l01Prime_l0 k]
theorem l01Prime_eq (p : Int) (k : Nat) (hk : 200 ≤ k) : spec_l01Prime.f k p = some (primeB p) := by
  rw [← IsPrime_eq p k hk]
  unfold spec_l01Prime.f impl_IsPrime.f spec_l01In.f impl_within.f
  simp only [l01Prime_l0]

theorem mod_lt {p x : Int} (hp : 0 < p) : 0 ≤ x % p ∧ x % p < p := ⟨Int.emod_nonneg _ (by omega), Int.emod_lt_of_pos _ hp⟩
theorem tmod_mod (p x : Int) (hp : 0 < p) : Int.tmod (Int.tmod x p + p) p = x % p := by
  have h1 : -p < Int.tmod x p := by
    exact Int.lt_tmod_of_pos x hp
  have h2 : Int.tmod x p < p := Int.tmod_lt_of_pos x hp
  rw [Int.tmod_eq_emod_of_nonneg (by omega), Int.add_emod_right]
  have h3 : Int.tmod x p = x - p * (Int.tdiv x p) := by rw [Int.tmod_def]
  rw [h3, Int.sub_mul_emod_self_left]
theorem fmod_eq (p x : Int) (hp : 0 < p) (hp1 : p ≤ 10007) : impl_field_mod.f p x = some (x % p) := by
  unfold impl_field_mod.f
  have h1 : -p < Int.tmod x p := Int.lt_tmod_of_pos x hp
  have h2 : Int.tmod x p < p := Int.tmod_lt_of_pos x hp
  rw [if_neg (by omega), wrap_id (by omega) (by omega), tmod_mod p x hp]
theorem l01Mod_eq (p x : Int) (hp : 0 < p) (hp1 : p ≤ 10007) : spec_l01Mod.f p x = some (x % p) := fmod_eq p x hp hp1
theorem prod_bound {x y : Int} (hx0 : 0 ≤ x) (hx : x ≤ 20000) (hy0 : 0 ≤ y) (hy : y ≤ 20000) : 0 ≤ x * y ∧ x * y ≤ 400000000 :=
  ⟨Int.mul_nonneg hx0 hy0, by have : x * y ≤ 20000 * 20000 := Int.mul_le_mul hx hy hy0 (by omega); omega⟩
theorem wrap_mul {x y : Int} (hx0 : 0 ≤ x) (hx : x ≤ 20000) (hy0 : 0 ≤ y) (hy : y ≤ 20000) : wrap64 (x * y) = x * y := by
  have := prod_bound hx0 hx hy0 hy
  exact wrap_id (by omega) (by omega)
theorem fmul_eq (p x y : Int) (hp : 0 < p) (hp1 : p ≤ 10007) (hx0 : 0 ≤ x) (hx : x ≤ 20000) (hy0 : 0 ≤ y) (hy : y ≤ 20000) : impl_field_mul.f p x y = some (x * y % p) := by
  unfold impl_field_mul.f
  rw [wrap_mul hx0 hx hy0 hy, fmod_eq p _ hp hp1]
  rfl
theorem tmod_mul {p x y : Int} (hx0 : 0 ≤ x) (hx : x ≤ 20000) (hy0 : 0 ≤ y) (hy : y ≤ 20000) : Int.tmod (wrap64 (x * y)) p = x * y % p := by
  rw [wrap_mul hx0 hx hy0 hy, Int.tmod_eq_emod_of_nonneg (prod_bound hx0 hx hy0 hy).1]

theorem pow_emod (p x : Int) : ∀ e : Nat, (x % p) ^ e % p = x ^ e % p
  | 0 => by rw [Int.pow_zero, Int.pow_zero]
  | e + 1 => by rw [Int.pow_succ, Int.pow_succ, Int.mul_emod, pow_emod p x e, ← Int.mul_emod, Int.mul_emod, Int.emod_emod, ← Int.mul_emod]
theorem pow_half (x : Int) (e : Nat) : x ^ e = (x * x) ^ (e / 2) * x ^ (e % 2) := by
  have h : e = 2 * (e / 2) + e % 2 := by omega
  have h2 : x * x = x ^ 2 := by rw [Int.pow_succ, Int.pow_succ, Int.pow_zero, Int.one_mul]
  rw [h2, ← Int.pow_mul, ← Int.pow_add, ← h]
theorem power_l0 (p : Int) (hp : 0 < p) (hp1 : p ≤ 10007) : ∀ (n k e : Nat) (x out : Int), e < 2 ^ n → n ≤ 40 → n < k → 0 ≤ x → x < p → 0 ≤ out → out < p → impl_field_power.l0 k p x e out = some (out * x ^ e % p)
  | 0, k, e, x, out, he, hn, hk, hx0, hx, ho0, ho => by
    obtain ⟨k, rfl⟩ : ∃ m, k = m + 1 := ⟨k - 1, by omega⟩
    obtain rfl : e = 0 := by omega
    simp only [impl_field_power.l0]
    rw [if_neg (by omega), Int.pow_zero, Int.mul_one, Int.emod_eq_of_lt ho0 ho]
  | n + 1, k, e, x, out, he, hn, hk, hx0, hx, ho0, ho => by
    obtain ⟨k, rfl⟩ : ∃ m, k = m + 1 := ⟨k - 1, by omega⟩
    simp only [impl_field_power.l0]
    by_cases h0 : e = 0
    · subst h0
      rw [if_neg (by omega), Int.pow_zero, Int.mul_one, Int.emod_eq_of_lt ho0 ho]
    · have he2 : e < 2 ^ 41 := Nat.lt_of_lt_of_le he (Nat.pow_le_pow_right (by omega) (by omega))
      have hdiv : Int.tdiv (e : Int) 2 = ((e / 2 : Nat) : Int) := by rw [Int.tdiv_eq_ediv_of_nonneg (by omega)]; omega
      have hmod : Int.tmod (e : Int) 2 = ((e % 2 : Nat) : Int) := by rw [Int.tmod_eq_emod_of_nonneg (by omega)]; omega
      have hxx := mod_lt (p := p) (x := x * x) hp
      rw [if_pos (by omega), hdiv, hmod, wrap_id (by omega) (by omega), fmul_eq p x x hp hp1 hx0 (by omega) hx0 (by omega), fmul_eq p out x hp hp1 ho0 (by omega) hx0 (by omega)]
      simp only [Option.bind_some]
      have hpow : out * x ^ e % p = (out * x ^ (e % 2)) * (x * x % p) ^ (e / 2) % p := by
        rw [pow_half x e, Int.mul_emod (out * x ^ (e % 2)), pow_emod, ← Int.mul_emod]
        congr 1
        rw [Int.mul_comm ((x * x) ^ (e / 2)), Int.mul_assoc]
      by_cases h1 : e % 2 = 1
      · have hox := mod_lt (p := p) (x := out * x) hp
        rw [if_pos (by omega), power_l0 p hp hp1 n k (e / 2) _ _ (by omega) (by omega) (by omega) hxx.1 hxx.2 hox.1 hox.2, hpow, h1, Int.pow_succ, Int.pow_zero, Int.one_mul, Int.mul_emod (out * x % p), Int.emod_emod, ← Int.mul_emod]
      · have h1' : e % 2 = 0 := by omega
        rw [if_neg (by omega), power_l0 p hp hp1 n k (e / 2) _ _ (by omega) (by omega) (by omega) hxx.1 hxx.2 ho0 ho, hpow, h1', Int.pow_zero, Int.mul_one]
theorem power_eq (p x : Int) (e k : Nat) (hp : 1 < p) (hp1 : p ≤ 10007) (hx0 : 0 ≤ x) (hx : x < p) (he : e < 1073741824) (hk : 50 ≤ k) : impl_field_power.f k p x e = some (x ^ e % p) := by
  unfold impl_field_power.f
  rw [fmod_eq p 1 (by omega) hp1, Int.emod_eq_of_lt (by omega) hp]
  simp only [Option.bind_some]
  rw [power_l0 p (by omega) hp1 30 k e x 1 (by omega) (by omega) (by omega) hx0 hx (by omega) hp, Int.one_mul]
theorem l01Power_l0 (p : Int) (hp : 0 < p) (hp1 : p ≤ 10007) : ∀ (n k e : Nat) (x out : Int), e < 2 ^ n → n ≤ 40 → n < k → 0 ≤ x → x < p → 0 ≤ out → out ≤ p → spec_l01Power.l0 k p e out x = some (out * x ^ e % p)
  | 0, k, e, x, out, he, hn, hk, hx0, hx, ho0, ho => by
    obtain ⟨k, rfl⟩ : ∃ m, k = m + 1 := ⟨k - 1, by omega⟩
    obtain rfl : e = 0 := by omega
    simp only [spec_l01Power.l0]
    rw [if_neg (by omega), if_neg (by omega), Int.pow_zero, Int.mul_one, Int.tmod_eq_emod_of_nonneg ho0]
  | n + 1, k, e, x, out, he, hn, hk, hx0, hx, ho0, ho => by
    obtain ⟨k, rfl⟩ : ∃ m, k = m + 1 := ⟨k - 1, by omega⟩
    simp only [spec_l01Power.l0]
    by_cases h0 : e = 0
    · subst h0
      rw [if_neg (by omega), if_neg (by omega), Int.pow_zero, Int.mul_one, Int.tmod_eq_emod_of_nonneg ho0]
    · have he2 : e < 2 ^ 41 := Nat.lt_of_lt_of_le he (Nat.pow_le_pow_right (by omega) (by omega))
      have hdiv : Int.tdiv (e : Int) 2 = ((e / 2 : Nat) : Int) := by rw [Int.tdiv_eq_ediv_of_nonneg (by omega)]; omega
      have hmod : Int.tmod (e : Int) 2 = ((e % 2 : Nat) : Int) := by rw [Int.tmod_eq_emod_of_nonneg (by omega)]; omega
      have hxx := mod_lt (p := p) (x := x * x) hp
      rw [if_pos (by omega), hdiv, hmod, wrap_id (by omega) (by omega), if_neg (show ¬ p = 0 by omega), tmod_mul hx0 (by omega) hx0 (by omega), tmod_mul ho0 (by omega) hx0 (by omega)]
      have hpow : out * x ^ e % p = (out * x ^ (e % 2)) * (x * x % p) ^ (e / 2) % p := by
        rw [pow_half x e, Int.mul_emod (out * x ^ (e % 2)), pow_emod, ← Int.mul_emod]
        congr 1
        rw [Int.mul_comm ((x * x) ^ (e / 2)), Int.mul_assoc]
      by_cases h1 : e % 2 = 1
      · have hox := mod_lt (p := p) (x := out * x) hp
        rw [if_pos (by omega), l01Power_l0 p hp hp1 n k (e / 2) _ _ (by omega) (by omega) (by omega) hxx.1 hxx.2 hox.1 (by omega), hpow, h1, Int.pow_succ, Int.pow_zero, Int.one_mul, Int.mul_emod (out * x % p), Int.emod_emod, ← Int.mul_emod]
      · have h1' : e % 2 = 0 := by omega
        rw [if_neg (by omega), if_neg (by omega), l01Power_l0 p hp hp1 n k (e / 2) _ _ (by omega) (by omega) (by omega) hxx.1 hxx.2 ho0 ho, hpow, h1', Int.pow_zero, Int.mul_one]
theorem l01Power_eq (p x : Int) (e k : Nat) (hp : 1 < p) (hp1 : p ≤ 10007) (he : e < 1073741824) (hk : 50 ≤ k) : spec_l01Power.f k p x e = some (x ^ e % p) := by
  unfold spec_l01Power.f
  have hx := mod_lt (p := p) (x := x) (by omega)
  rw [l01Mod_eq p x (by omega) hp1]
  simp only [Option.bind_some]
  rw [l01Power_l0 p (by omega) hp1 30 k e _ 1 (by omega) (by omega) (by omega) hx.1 hx.2 (by omega) (by omega), Int.one_mul, pow_emod]
def inv (p x : Int) : Int := x ^ (p - 2).toNat % p
theorem inv_lt {p x : Int} (hp : 0 < p) : 0 ≤ inv p x ∧ inv p x < p := mod_lt hp
theorem finv_eq (p x : Int) (k : Nat) (hp : 1 < p) (hp1 : p ≤ 10007) (hx0 : 0 ≤ x) (hx : x < p) (hk : 50 ≤ k) : impl_field_inverse.f k p x = some (inv p x) := by
  unfold impl_field_inverse.f
  have := power_eq p x (p - 2).toNat k hp hp1 hx0 hx (by omega) hk
  rw [Int.toNat_of_nonneg (by omega)] at this
  rw [wrap_id (by omega) (by omega), this]
  rfl
theorem l01Inverse_eq (p x : Int) (k : Nat) (hp : 1 < p) (hp1 : p ≤ 10007) (hk : 50 ≤ k) : spec_l01Inverse.f k p x = some (inv p x) := by
  unfold spec_l01Inverse.f
  have := l01Power_eq p x (p - 2).toNat k hp hp1 (by omega) hk
  rw [Int.toNat_of_nonneg (by omega)] at this
  rw [wrap_id (by omega) (by omega), this]
  rfl
theorem fdiv_eq (p x y : Int) (k : Nat) (hp : 1 < p) (hp1 : p ≤ 10007) (hx0 : 0 ≤ x) (hx : x < p) (hy0 : 0 ≤ y) (hy : y < p) (hk : 50 ≤ k) : impl_field_div.f k p x y = some (x * inv p y % p) := by
  unfold impl_field_div.f
  have hi := inv_lt (p := p) (x := y) (by omega)
  rw [finv_eq p y k hp hp1 hy0 hy hk]
  simp only [Option.bind_some]
  rw [fmul_eq p x _ (by omega) hp1 hx0 (by omega) hi.1 (by omega)]
  rfl

def InL (lo hi : Int) (l : List Int) : Prop := ∀ x ∈ l, lo ≤ x ∧ x ≤ hi
structure JacP (p : Int) (a b : List Int) : Prop where
  prime : primeP p
  one : 1 ≤ a.length
  top : a.length ≤ 12
  same : b.length = a.length
  ina : InL 0 (p - 1) a
  inb : InL 1 (p - 1) b
noncomputable def jacB (p : Int) (a b : List Int) : Bool := @decide (JacP p a b) (Classical.propDecidable _)
theorem primeB_iff {p : Int} : primeB p = true ↔ primeP p := by simp [primeB]
theorem jacB_iff {p : Int} {a b : List Int} : jacB p a b = true ↔ JacP p a b := by simp [jacB]
theorem allO_some {α : Type} (g : α → Bool) : ∀ l : List α, allO (fun x => some (g x)) l = some (l.all g)
  | [] => rfl
  | x :: xs => by
    simp only [allO, Option.bind_some, List.all_cons]
    cases h : g x with
    | true => simp [allO_some g xs]
    | false => simp
theorem has_eq (p x : Int) : impl_field_has.f p x = some (decide (0 ≤ x ∧ x ≤ p - 1)) := by
  unfold impl_field_has.f
  by_cases h : 0 ≤ x
  · rw [if_pos h]; congr 1; rw [decide_eq_decide]; omega
  · rw [if_neg h]; simp [h]
theorem within_eq (x lo hi : Int) : impl_within.f x lo hi = some (decide (lo ≤ x ∧ x ≤ hi)) := by
  unfold impl_within.f
  by_cases h : lo ≤ x
  · rw [if_pos h]; simp [h]
  · rw [if_neg h]; simp [h]
theorem l01In_eq (x lo hi : Int) : spec_l01In.f x lo hi = some (decide (lo ≤ x ∧ x ≤ hi)) := within_eq x lo hi
theorem isUnit_eq (p x : Int) (hp : -9223372036854775807 ≤ p) (hp1 : p ≤ 9223372036854775807) : impl_field_isUnit.f p x = some (decide (1 ≤ x ∧ x ≤ p - 1)) := by
  unfold impl_field_isUnit.f
  rw [wrap_id (by omega) (by omega), within_eq]
  rfl
theorem all_has (p : Int) (l : List Int) : impl_areAll_int64_by_impl_field_has.f l p = some (l.all fun x => decide (0 ≤ x ∧ x ≤ p - 1)) := by
  unfold impl_areAll_int64_by_impl_field_has.f
  rw [show (fun x_ => impl_field_has.f p x_) = fun x => some (decide (0 ≤ x ∧ x ≤ p - 1)) from funext fun x => has_eq p x, allO_some]
theorem all_unit (p : Int) (l : List Int) (hp : -9223372036854775807 ≤ p) (hp1 : p ≤ 9223372036854775807) : impl_areAll_int64_by_impl_field_isUnit.f l p = some (l.all fun x => decide (1 ≤ x ∧ x ≤ p - 1)) := by
  unfold impl_areAll_int64_by_impl_field_isUnit.f
  rw [show (fun x_ => impl_field_isUnit.f p x_) = fun x => some (decide (1 ≤ x ∧ x ≤ p - 1)) from funext fun x => isUnit_eq p x hp hp1, allO_some]
theorem InL_all (lo hi : Int) (l : List Int) : (l.all fun x => decide (lo ≤ x ∧ x ≤ hi)) = @decide (InL lo hi l) (Classical.propDecidable _) := by
  rw [Bool.eq_iff_iff, List.all_eq_true]
  simp only [decide_eq_true_eq]
  exact Iff.rfl
theorem IsJacobi_eq (p : Int) (a b : List Int) (k : Nat) (hk : 200 ≤ k) : impl_IsJacobi.f k p a b = some (jacB p a b) := by
  unfold impl_IsJacobi.f impl_Jacobi_size.f impl_length_int64.f impl_Jacobi_field.f
  rw [IsPrime_eq p k hk]
  simp only [Option.bind_some]
  by_cases hp : primeP p
  · rw [if_pos (primeB_iff.2 hp), within_eq]
    simp only [Option.bind_some]
    by_cases hl : 1 ≤ (a.length : Int) ∧ (a.length : Int) ≤ 12
    · rw [if_pos (by simpa using hl)]
      by_cases hs : (b.length : Int) = (a.length : Int)
      · rw [if_pos hs, all_has, InL_all]
        simp only [Option.bind_some]
        by_cases ha : InL 0 (p - 1) a
        · rw [if_pos (by simpa using ha), all_unit p b (by have := hp.1; omega) (by have := hp.2.1; omega), InL_all]
          simp only [Option.bind_some]
          congr 1
          rw [Bool.eq_iff_iff]
          simp only [decide_eq_true_eq, jacB_iff]
          exact ⟨fun hb => ⟨hp, by omega, by omega, by omega, ha, hb⟩, fun h => h.inb⟩
        · rw [if_neg (by simpa using ha)]
          have : ¬ JacP p a b := fun h => ha h.ina
          simp [jacB, this]
      · rw [if_neg hs]
        have : ¬ JacP p a b := fun h => hs (by have := h.same; omega)
        simp [jacB, this]
    · rw [if_neg (by simpa using hl)]
      have : ¬ JacP p a b := fun h => hl (by have := h.one; have := h.top; omega)
      simp [jacB, this]
  · rw [if_neg (by rw [primeB_iff]; exact hp)]
    have : ¬ JacP p a b := fun h => hp h.prime
    simp [jacB, this]
theorem jacobiCode_eq (p : Int) (a b : List Int) (c : Bool) (k : Nat) (hk : 200 ≤ k) : impl_jacobiCode.f k p a b c = some (if jacB p a b = true then if c = true then 0 else 2 else 1) := by
  unfold impl_jacobiCode.f
  rw [IsJacobi_eq p a b k hk]
  simp only [Option.bind_some]
  cases jacB p a b <;> cases c <;> rfl
theorem InL_drop {lo hi : Int} {l : List Int} {i : Nat} (h : i < l.length) : InL lo hi (l.drop i) ↔ (lo ≤ l[i] ∧ l[i] ≤ hi) ∧ InL lo hi (l.drop (i + 1)) := by
  rw [List.drop_eq_getElem_cons h]
  unfold InL
  constructor
  · intro hx
    exact ⟨hx _ List.mem_cons_self, fun x h2 => hx x (List.mem_cons_of_mem _ h2)⟩
  · rintro ⟨h1, h2⟩ x hx
    rcases List.mem_cons.1 hx with rfl | hx
    · exact h1
    · exact h2 x hx
theorem l03Is_l0 (p : Int) (a b : List Int) (hp0 : -9223372036854775807 ≤ p) (hp1 : p ≤ 9223372036854775807) (hl : a.length ≤ 12) (hab : b.length = a.length) : ∀ (d k i : Nat), i + d = a.length → d < k →
    spec_l03Is.l0 k i p a b = some (@decide (InL 0 (p - 1) (a.drop i) ∧ InL 1 (p - 1) (b.drop i)) (Classical.propDecidable _))
  | 0, k, i, hd, hk => by
    obtain ⟨k, rfl⟩ : ∃ m, k = m + 1 := ⟨k - 1, by omega⟩
    simp only [spec_l03Is.l0]
    rw [if_neg (by omega), List.drop_eq_nil_of_le (by omega), List.drop_eq_nil_of_le (by omega)]
    simp [InL]
  | d + 1, k, i, hd, hk => by
    obtain ⟨k, rfl⟩ : ∃ m, k = m + 1 := ⟨k - 1, by omega⟩
    simp only [spec_l03Is.l0]
    have hi : i < a.length := by omega
    have hi2 : i < b.length := by omega
    rw [if_pos (by omega), if_pos (by omega), wrap_id (by omega) (by omega), rd_nat hi, rd_nat hi2, l01In_eq, l01In_eq]
    simp only [Option.bind_some]
    rw [wrap_id (by omega) (by omega)]
    by_cases h1 : 0 ≤ a[i] ∧ a[i] ≤ p - 1
    · rw [if_pos (by simpa using h1), if_pos (by omega)]
      by_cases h2 : 1 ≤ b[i] ∧ b[i] ≤ p - 1
      · rw [if_pos (by simpa using h2)]
        have := l03Is_l0 p a b hp0 hp1 hl hab d k (i + 1) (by omega) (by omega)
        rw [show ((i : Int) + 1) = ((i + 1 : Nat) : Int) from rfl, this]
        congr 1
        rw [Bool.eq_iff_iff]
        simp only [decide_eq_true_eq]
        rw [InL_drop hi, InL_drop hi2]
        exact ⟨fun h => ⟨⟨h1, h.1⟩, ⟨h2, h.2⟩⟩, fun h => ⟨h.1.2, h.2.2⟩⟩
      · rw [if_neg (by simpa using h2)]
        have : ¬ (InL 0 (p - 1) (a.drop i) ∧ InL 1 (p - 1) (b.drop i)) := fun h => h2 ((InL_drop hi2).1 h.2).1
        simp [this]
    · rw [if_neg (by simpa using h1)]
      have : ¬ (InL 0 (p - 1) (a.drop i) ∧ InL 1 (p - 1) (b.drop i)) := fun h => h1 ((InL_drop hi).1 h.1).1
      simp [this]
theorem l03Is_j0 (p : Int) (a b : List Int) (c : Bool) (k : Nat) (hk : 100 ≤ k) (hp : primeP p) (hc : c = false → 1 ≤ a.length ∧ a.length ≤ 12 ∧ b.length = a.length) (hc2 : c = true → ¬ (1 ≤ a.length ∧ a.length ≤ 12 ∧ b.length = a.length)) : spec_l03Is.j0 k c p a b = some (jacB p a b) := by
  obtain ⟨k, rfl⟩ : ∃ m, k = m + 1 := ⟨k - 1, by omega⟩
  simp only [spec_l03Is.j0]
  cases c with
  | true =>
    have : ¬ JacP p a b := fun h => hc2 rfl ⟨h.one, h.top, h.same⟩
    simp [jacB, this]
  | false =>
    obtain ⟨h1, h2, h3⟩ := hc rfl
    have := l03Is_l0 p a b (by have := hp.1; omega) (by have := hp.2.1; omega) h2 h3 a.length k 0 (by omega) (by omega)
    rw [if_neg (by simp)]
    rw [show ((0 : Int)) = ((0 : Nat) : Int) from rfl, this]
    congr 1
    rw [Bool.eq_iff_iff]
    simp only [decide_eq_true_eq, jacB_iff, List.drop_zero]
    exact ⟨fun h => ⟨hp, h1, h2, h3, h.1, h.2⟩, fun h => ⟨h.ina, h.inb⟩⟩
theorem l03Is_eq (p : Int) (a b : List Int) (k : Nat) (hk : 200 ≤ k) : spec_l03Is.f k p a b = some (jacB p a b) := by
  unfold spec_l03Is.f
  rw [l01Prime_eq p k hk]
  simp only [Option.bind_some]
  by_cases hp : primeP p
  · rw [if_pos (primeB_iff.2 hp)]
    by_cases h1 : (a.length : Int) < 1
    · rw [if_pos h1]; exact l03Is_j0 p a b _ k (by omega) hp (by simp) (fun _ => by omega)
    · rw [if_neg h1]
      by_cases h2 : (a.length : Int) > 12
      · rw [if_pos h2]; exact l03Is_j0 p a b _ k (by omega) hp (by simp) (fun _ => by omega)
      · rw [if_neg h2]
        refine l03Is_j0 p a b _ k (by omega) hp (fun h => ?_) (fun h => ?_)
        · simp at h; omega
        · simp at h; omega
  · rw [if_neg (by rw [primeB_iff]; exact hp)]
    obtain ⟨k, rfl⟩ : ∃ m, k = m + 1 := ⟨k - 1, by omega⟩
    have : ¬ JacP p a b := fun h => hp h.prime
    simp [jacB, this, spec_l03Is.j0]
end Go.Proofs.Ytaclapojgdekpaa.Pl
