/- Part of the proof of the law FnPathCounts. -/
import Derived.Test.YtlodpobegdbhaaaCPathCountsMCount
import Derived.Test.YtlodpobegdbhaaaCPathCountsMPath
import Derived.Test.YtlodpobegdbhaaaCPathCountsPlBase
import Derived.Test.YtlodpobegdbhaaaCPathCountsPlPathsQ
import Derived.Test.YtlodpobegdbhaaaCPathCountsX22
import Derived.Test.YtlodpobegdbhaaaCPathCountsX23
import Derived.Test.YtlodpobegdbhaaaCPathCountsX25
import Derived.Test.YtlodpobegdbhaaaCPathCountsX28
import Derived.Test.YtlodpobegdbhaaaCPathCountsX31
import Derived.Test.YtlodpobegdbhaaaCPathCountsX4
import Derived.Test.YtlodpobegdbhaaaCPathCountsX0
import Derived.Test.YtlodpobegdbhaaaCPathCountsX3
import Derived.Test.YtlodpobegdbhaaaCPathCountsX5
import Derived.Test.YtlodpobegdbhaaaCPathCountsX6
import Derived.Test.YtlodpobegdbhaaaCPathCountsX9
import Derived.Test.YtlodpobegdbhaaaCPathCountsXZ
import Derived.Test.YtlodpobegdbhaaaCPathCountsX29
import Derived.Test.YtlodpobegdbhaaaCPathCountsX30
import Derived.Test.YtlodpobegdbhaaaCPathCountsX1
import Derived.Test.YtlodpobegdbhaaaCPathCountsX12
import Derived.Test.YtlodpobegdbhaaaCPathCountsX33
import Derived.SizedLaws
import Derived.ChangeSlices
namespace Go.Proofs.Ytlodpobegdbhaaa.Pl
open Go.RowKit Go.Proofs.YtlodpobegdbhaaaW.PrintWords Go.Proofs.YtlodpobegdbhaaaW.PrintMore Go.Proofs.Ytlodpobegdbhaaa.X
set_option linter.unusedVariables false
set_option linter.unusedSimpArgs false
set_option maxRecDepth 20000
def cd_ (x : Int) : Bool := decide (0 ≤ x ∧ x ≤ 24)
theorem isLength_eq (x : Int) : impl_isLength.f x = some (cd_ x) := by
  rw [impl_isLength.f, within2]; rfl
theorem allO_cd (l : List Int) : allO (fun x_ => impl_isLength.f x_) l = some (l.all cd_) := by
  induction l with
  | nil => rfl
  | cons a l ih =>
    simp only [allO, isLength_eq, Option.bind_some, List.all_cons]
    cases hc : cd_ a
    · simp
    · simpa [isLength_eq] using ih
theorem areCounted_eq (l : List Int) : impl_areCounted.f l = some (l.all cd_) := by
  rw [impl_areCounted.f, impl_areAll_int64_by_impl_isLength.f, allO_cd]; rfl
def cd4 (n i k h : Int) : Bool := decide ((0 ≤ n ∧ n ≤ 24) ∧ (0 ≤ i ∧ i ≤ 24) ∧ (0 ≤ k ∧ k ≤ 24) ∧ (0 ≤ h ∧ h ≤ 24))
theorem areCounted4 (n i k h : Int) : impl_areCounted.f [n, i, k, h] = some (cd4 n i k h) := by
  rw [areCounted_eq]
  simp only [List.all_cons, List.all_nil, cd_, cd4, Bool.and_true, Bool.decide_and]
theorem given4 (n i k h : Int) : spec_l09Given.f n i k h = some (cd4 n i k h) := by
  rw [spec_l09Given.f]
  simp only [l09In, Option.bind_some, cd4]
  by_cases h1 : 0 ≤ n ∧ n ≤ 24
  · by_cases h2 : 0 ≤ i ∧ i ≤ 24
    · by_cases h3 : 0 ≤ k ∧ k ≤ 24
      · simp [h1, h2, h3]
      · simp only [h1, h2, h3]; simp
    · simp only [h1, h2]; simp
  · simp only [h1]; simp
theorem cd4_nat {n i k h : Int} (c : cd4 n i k h = true) : ∃ n' i' k' h' : Nat, n = n' ∧ i = i' ∧ k = k' ∧ h = h' ∧ n' ≤ 24 ∧ i' ≤ 24 ∧ k' ≤ 24 ∧ h' ≤ 24 := by
  have c' := of_decide_eq_true c
  exact ⟨n.toNat, i.toNat, k.toNat, h.toNat, by omega, by omega, by omega, by omega, by omega, by omega, by omega, by omega⟩
def cntAns (lv : Bool) (n i k h : Int) : Int × Int := if cd4 n i k h = true then (countN lv n.toNat i.toNat k.toNat h.toNat, 0) else (0, 2)
theorem CountPaths_eq (n i k h : Int) (K : Nat) (hK : 10000 ≤ K) : impl_CountPaths.f K n i k h = some (cntAns true n i k h) := by
  rw [impl_CountPaths.f, areCounted4, Option.bind_some]
  unfold cntAns
  by_cases c : cd4 n i k h = true
  · rw [if_pos c, if_pos c]
    obtain ⟨n', i', k', h', rfl, rfl, rfl, rfl, hn, hi, hk, hh⟩ := cd4_nat c
    rw [countPaths_eq true n' i' k' h' hn (by omega) (by omega) (by omega) K hK]; rfl
  · rw [if_neg c, if_neg c]
theorem CountLevelPaths_eq (n i k h : Int) (K : Nat) (hK : 10000 ≤ K) : impl_CountLevelPaths.f K n i k h = some (cntAns false n i k h) := by
  rw [impl_CountLevelPaths.f, areCounted4, Option.bind_some]
  unfold cntAns
  by_cases c : cd4 n i k h = true
  · rw [if_pos c, if_pos c]
    obtain ⟨n', i', k', h', rfl, rfl, rfl, rfl, hn, hi, hk, hh⟩ := cd4_nat c
    rw [countPaths_eq false n' i' k' h' hn (by omega) (by omega) (by omega) K hK]; rfl
  · rw [if_neg c, if_neg c]
theorem spec_CountPaths_eq (n i k h : Int) (K : Nat) (hK : 10000 ≤ K) : spec_CountPaths.f K n i k h = some (cntAns true n i k h) := by
  rw [spec_CountPaths.f, given4, Option.bind_some]
  unfold cntAns
  by_cases c : cd4 n i k h = true
  · rw [if_pos c, if_pos c]
    obtain ⟨n', i', k', h', rfl, rfl, rfl, rfl, hn, hi, hk, hh⟩ := cd4_nat c
    rw [show spec_l09Count.f K (n' : Int) i' k' h' false = some (countN true n' i' k' h') from l09Count_eq true n' i' k' h' hn (by omega) (by omega) (by omega) K hK]; rfl
  · rw [if_neg c, if_neg c]
theorem spec_CountLevelPaths_eq (n i k h : Int) (K : Nat) (hK : 10000 ≤ K) : spec_CountLevelPaths.f K n i k h = some (cntAns false n i k h) := by
  rw [spec_CountLevelPaths.f, given4, Option.bind_some]
  unfold cntAns
  by_cases c : cd4 n i k h = true
  · rw [if_pos c, if_pos c]
    obtain ⟨n', i', k', h', rfl, rfl, rfl, rfl, hn, hi, hk, hh⟩ := cd4_nat c
    rw [show spec_l09Count.f K (n' : Int) i' k' h' true = some (countN false n' i' k' h') from l09Count_eq false n' i' k' h' hn (by omega) (by omega) (by omega) K hK]; rfl
  · rw [if_neg c, if_neg c]
theorem BallotNumber_eq (n k : Int) (K : Nat) (hK : 10000 ≤ K) : impl_BallotNumber.f K n k = some (cntAns false n 0 k 24) := by
  rw [impl_BallotNumber.f, areCounted_eq, Option.bind_some]
  unfold cntAns
  by_cases c : cd4 n 0 k 24 = true
  · obtain ⟨n', i', k', h', rfl, h0, rfl, h24, hn, hi, hk, hh⟩ := cd4_nat c
    rw [if_pos c, if_pos (by simp only [List.all_cons, List.all_nil, cd_]; simp; omega)]
    rw [show (0 : Int) = ((0 : Nat) : Int) from rfl, show (48 : Int) = ((48 : Nat) : Int) from rfl, countPaths_eq false n' 0 k' 48 hn (by omega) (by omega) (by omega) K hK, countN_top false n' k' hn hk]; rfl
  · rw [if_neg c, if_neg (by intro h; apply c; simp [cd_] at h; unfold cd4; simp; omega)]
theorem spec_BallotNumber_eq (n k : Int) (K : Nat) (hK : 10000 ≤ K) : spec_BallotNumber.f K n k = some (cntAns false n 0 k 24) := by
  rw [spec_BallotNumber.f]
  simp only [l09In, Option.bind_some]
  unfold cntAns
  by_cases c : cd4 n 0 k 24 = true
  · obtain ⟨n', i', k', h', rfl, h0, rfl, h24, hn, hi, hk, hh⟩ := cd4_nat c
    rw [if_pos c, if_pos (by simp; omega), if_pos (by simp; omega)]
    rw [show spec_l09Count.f K (n' : Int) 0 k' 24 true = some (countN false n' 0 k' 24) from l09Count_eq false n' 0 k' 24 hn (by omega) (by omega) (by omega) K hK]; rfl
  · rw [if_neg c]
    by_cases h1 : 0 ≤ n ∧ n ≤ 24
    · rw [if_pos (by simpa using h1), if_neg (by intro h; apply c; simp at h; unfold cd4; simp; omega)]
    · rw [if_neg (by simpa using h1)]
def lstAns (n i k h : Int) : List ByteArray × Int := if cd4 n i k h = true then (if countN true n.toNat i.toNat k.toNat h.toNat > 400 then ([], 3) else ((PL h.toNat k.toNat n.toNat i.toNat).map bs, 0)) else ([], 2)
theorem PathsOf_eq (n i k h : Int) (K : Nat) (hK : 100000 ≤ K) : impl_PathsOf.f K n i k h = some (lstAns n i k h) := by
  rw [impl_PathsOf.f, areCounted4, Option.bind_some]
  unfold lstAns
  by_cases c : cd4 n i k h = true
  · rw [if_pos c, if_pos c]
    obtain ⟨n', i', k', h', rfl, rfl, rfl, rfl, hn, hi, hk, hh⟩ := cd4_nat c
    rw [countPaths_eq true n' i' k' h' hn (by omega) (by omega) (by omega) K (by omega), Option.bind_some]
    simp only [Int.toNat_natCast]
    by_cases h4 : countN true n' i' k' h' > 400
    · rw [if_pos h4, if_pos h4]
    · rw [if_neg h4, if_neg h4, pathsOf_eq h' k' hh hk n' (i' : Int) K hn (by omega) (by omega) (by rw [PLi_nat]; have := countN_paths n' i' k' h'; omega) (by omega), PLi_nat]; rfl
  · rw [if_neg c, if_neg c]
theorem spec_PathsOf_eq (n i k h : Int) (K : Nat) (hK : 100000 ≤ K) : spec_PathsOf.f K n i k h = some (lstAns n i k h) := by
  rw [spec_PathsOf.f, given4, Option.bind_some]
  unfold lstAns
  by_cases c : cd4 n i k h = true
  · rw [if_pos c, if_pos c]
    obtain ⟨n', i', k', h', rfl, rfl, rfl, rfl, hn, hi, hk, hh⟩ := cd4_nat c
    rw [show spec_l09Count.f K (n' : Int) i' k' h' false = some (countN true n' i' k' h') from l09Count_eq true n' i' k' h' hn (by omega) (by omega) (by omega) K (by omega), Option.bind_some]
    simp only [Int.toNat_natCast]
    by_cases h4 : countN true n' i' k' h' > 400
    · rw [if_pos h4, if_pos h4]
    · rw [if_neg h4, if_neg h4, l09Paths_eq h' k' hh hk n' i' K hn (by omega) (by have := countN_paths n' i' k' h'; omega) (by omega)]; rfl
  · rw [if_neg c, if_neg c]
end Go.Proofs.Ytlodpobegdbhaaa.Pl

/- Part of the proof of the law FnPathCounts. -/
namespace Go.Proofs.Ytlodpobegdbhaaa.Pl
open Go.RowKit Go.Proofs.YtlodpobegdbhaaaW.PrintWords Go.Proofs.Ytlodpobegdbhaaa.X
set_option linter.unusedVariables false
set_option linter.unusedSimpArgs false

def primeP (p : Int) : Prop := 2 ≤ p ∧ p ≤ 10007 ∧ ∀ d : Nat, 2 ≤ d → (d : Int) * d ≤ p → p % d ≠ 0
noncomputable def primeB (p : Int) : Bool := @decide (primeP p) (Classical.propDecidable _)
theorem IsPrime_l0 (p : Int) (h0 : 2 ≤ p) (h1 : p ≤ 10007) : ∀ (m k i : Nat), 2 ≤ i → i + m = 102 → m < k → (∀ d : Nat, 2 ≤ d → d < i → (d : Int) * d ≤ p → p % d ≠ 0) → impl_IsPrime.l0 k p i = some (primeB p)
  | 0, k, i, hi, hm, hk, hd => by
    obtain ⟨k, rfl⟩ : ∃ m, k = m + 1 := ⟨k - 1, by omega⟩
    obtain rfl : i = 102 := by omega
    simp only [impl_IsPrime.l0]
    rw [wrap_id (by decide) (by decide), if_neg (by omega)]
    have : primeP p := ⟨h0, h1, fun d h2 h3 => by
      by_cases h : d < 102
      · exact hd d h2 h h3
      · exfalso
        have : (102 : Int) * 102 ≤ (d : Int) * d := Int.mul_le_mul (by omega) (by omega) (by omega) (by omega)
        omega⟩
    simp [primeB, this]
  | m + 1, k, i, hi, hm, hk, hd => by
    obtain ⟨k, rfl⟩ : ∃ m, k = m + 1 := ⟨k - 1, by omega⟩
    simp only [impl_IsPrime.l0]
    have hb : (i : Int) * i ≤ 102 * 102 := Int.mul_le_mul (by omega) (by omega) (by omega) (by omega)
    have hb0 : 0 ≤ (i : Int) * i := Int.mul_nonneg (by omega) (by omega)
    rw [wrap_id (by omega) (by omega)]
    by_cases hle : (i : Int) * i ≤ p
    · rw [if_pos hle, if_neg (by omega), Int.tmod_eq_emod_of_nonneg (by omega)]
      by_cases hz : p % i = 0
      · rw [if_pos hz]
        have : ¬ primeP p := fun h => h.2.2 i hi hle hz
        simp [primeB, this]
      · rw [if_neg hz, wrap_id (by omega) (by omega)]
        have := IsPrime_l0 p h0 h1 m k (i + 1) (by omega) (by omega) (by omega) (fun d h2 h3 h4 => by
          by_cases h : d = i
          · subst h; exact hz
          · exact hd d h2 (by omega) h4)
        simpa using this
    · rw [if_neg hle]
      have : primeP p := ⟨h0, h1, fun d h2 h3 => by
        by_cases h : d < i
        · exact hd d h2 h h3
        · exfalso
          have : (i : Int) * i ≤ (d : Int) * d := Int.mul_le_mul (by omega) (by omega) (by omega) (by omega)
          omega⟩
      simp [primeB, this]
theorem IsPrime_eq (p : Int) (k : Nat) (hk : 200 ≤ k) : impl_IsPrime.f k p = some (primeB p) := by
  unfold impl_IsPrime.f impl_within.f
  by_cases h0 : 2 ≤ p
  · by_cases h1 : p ≤ 10007
    · have := IsPrime_l0 p h0 h1 100 k 2 (by omega) (by omega) (by omega) (fun d h2 h3 => by omega)
      simpa [h0, h1] using this
    · have : ¬ primeP p := fun h => h1 h.2.1
      simp [h0, h1, primeB, this]
  · have : ¬ primeP p := fun h => h0 h.1
    simp [h0, primeB, this]
theorem l01Prime_l0 : ∀ (k : Nat) (p i : Int), spec_l01Prime.l0 k p i = impl_IsPrime.l0 k p i
  | 0, _, _ => rfl
  | k + 1, p, i => by simp only [spec_l01Prime.l0, impl_IsPrime.l0, l01Prime_l0 k]
theorem l01Prime_eq (p : Int) (k : Nat) (hk : 200 ≤ k) : spec_l01Prime.f k p = some (primeB p) := by
  rw [← IsPrime_eq p k hk]
  unfold spec_l01Prime.f impl_IsPrime.f spec_l01In.f impl_within.f
  simp only [l01Prime_l0]

theorem mod_lt {p x : Int} (hp : 0 < p) : 0 ≤ x % p ∧ x % p < p := ⟨Int.emod_nonneg _ (by omega), Int.emod_lt_of_pos _ hp⟩
theorem tmod_mod (p x : Int) (hp : 0 < p) : Int.tmod (Int.tmod x p + p) p = x % p := by
  have h1 : -p < Int.tmod x p := by
    exact Int.lt_tmod_of_pos x hp
  have h2 : Int.tmod x p < p := Int.tmod_lt_of_pos x hp
  rw [Int.tmod_eq_emod_of_nonneg (by omega), Int.add_emod_right]
  have h3 : Int.tmod x p = x - p * (Int.tdiv x p) := by rw [Int.tmod_def]
  rw [h3, Int.sub_mul_emod_self_left]
theorem fmod_eq (p x : Int) (hp : 0 < p) (hp1 : p ≤ 10007) : impl_field_mod.f p x = some (x % p) := by
  unfold impl_field_mod.f
  have h1 : -p < Int.tmod x p := Int.lt_tmod_of_pos x hp
  have h2 : Int.tmod x p < p := Int.tmod_lt_of_pos x hp
  rw [if_neg (by omega), wrap_id (by omega) (by omega), tmod_mod p x hp]
theorem prod_bound {x y : Int} (hx0 : 0 ≤ x) (hx : x ≤ 20000) (hy0 : 0 ≤ y) (hy : y ≤ 20000) : 0 ≤ x * y ∧ x * y ≤ 400000000 :=
  ⟨Int.mul_nonneg hx0 hy0, by have : x * y ≤ 20000 * 20000 := Int.mul_le_mul hx hy hy0 (by omega); omega⟩
theorem wrap_mul {x y : Int} (hx0 : 0 ≤ x) (hx : x ≤ 20000) (hy0 : 0 ≤ y) (hy : y ≤ 20000) : wrap64 (x * y) = x * y := by
  have := prod_bound hx0 hx hy0 hy
  exact wrap_id (by omega) (by omega)
theorem fmul_eq (p x y : Int) (hp : 0 < p) (hp1 : p ≤ 10007) (hx0 : 0 ≤ x) (hx : x ≤ 20000) (hy0 : 0 ≤ y) (hy : y ≤ 20000) : impl_field_mul.f p x y = some (x * y % p) := by
  unfold impl_field_mul.f
  rw [wrap_mul hx0 hx hy0 hy, fmod_eq p _ hp hp1]
  rfl
theorem tmod_mul {p x y : Int} (hx0 : 0 ≤ x) (hx : x ≤ 20000) (hy0 : 0 ≤ y) (hy : y ≤ 20000) : Int.tmod (wrap64 (x * y)) p = x * y % p := by
  rw [wrap_mul hx0 hx hy0 hy, Int.tmod_eq_emod_of_nonneg (prod_bound hx0 hx hy0 hy).1]

def InL (lo hi : Int) (l : List Int) : Prop := ∀ x ∈ l, lo ≤ x ∧ x ≤ hi
structure JacP (p : Int) (a b : List Int) : Prop where
  prime : primeP p
  one : 1 ≤ a.length
  top : a.length ≤ 12
  same : b.length = a.length
  ina : InL 0 (p - 1) a
  inb : InL 1 (p - 1) b
noncomputable def jacB (p : Int) (a b : List Int) : Bool := @decide (JacP p a b) (Classical.propDecidable _)
theorem primeB_iff {p : Int} : primeB p = true ↔ primeP p := by simp [primeB]
theorem jacB_iff {p : Int} {a b : List Int} : jacB p a b = true ↔ JacP p a b := by simp [jacB]
theorem allO_some {α : Type} (g : α → Bool) : ∀ l : List α, allO (fun x => some (g x)) l = some (l.all g)
  | [] => rfl
  | x :: xs => by
    simp only [allO, Option.bind_some, List.all_cons]
    cases h : g x with
    | true => simp [allO_some g xs]
    | false => simp
theorem has_eq (p x : Int) : impl_field_has.f p x = some (decide (0 ≤ x ∧ x ≤ p - 1)) := by
  unfold impl_field_has.f
  by_cases h : 0 ≤ x
  · rw [if_pos h]; congr 1; rw [decide_eq_decide]; omega
  · rw [if_neg h]; simp [h]
theorem within_eq (x lo hi : Int) : impl_within.f x lo hi = some (decide (lo ≤ x ∧ x ≤ hi)) := by
  unfold impl_within.f
  by_cases h : lo ≤ x
  · rw [if_pos h]; simp [h]
  · rw [if_neg h]; simp [h]
theorem l01In_eq (x lo hi : Int) : spec_l01In.f x lo hi = some (decide (lo ≤ x ∧ x ≤ hi)) := within_eq x lo hi
theorem isUnit_eq (p x : Int) (hp : -9223372036854775807 ≤ p) (hp1 : p ≤ 9223372036854775807) : impl_field_isUnit.f p x = some (decide (1 ≤ x ∧ x ≤ p - 1)) := by
  unfold impl_field_isUnit.f
  rw [wrap_id (by omega) (by omega), within_eq]
  rfl
theorem all_has (p : Int) (l : List Int) : impl_areAll_int64_by_impl_field_has.f l p = some (l.all fun x => decide (0 ≤ x ∧ x ≤ p - 1)) := by
  unfold impl_areAll_int64_by_impl_field_has.f
  rw [show (fun x_ => impl_field_has.f p x_) = fun x => some (decide (0 ≤ x ∧ x ≤ p - 1)) from funext fun x => has_eq p x, allO_some]
theorem all_unit (p : Int) (l : List Int) (hp : -9223372036854775807 ≤ p) (hp1 : p ≤ 9223372036854775807) : impl_areAll_int64_by_impl_field_isUnit.f l p = some (l.all fun x => decide (1 ≤ x ∧ x ≤ p - 1)) := by
  unfold impl_areAll_int64_by_impl_field_isUnit.f
  rw [show (fun x_ => impl_field_isUnit.f p x_) = fun x => some (decide (1 ≤ x ∧ x ≤ p - 1)) from funext fun x => isUnit_eq p x hp hp1, allO_some]
theorem InL_all (lo hi : Int) (l : List Int) : (l.all fun x => decide (lo ≤ x ∧ x ≤ hi)) = @decide (InL lo hi l) (Classical.propDecidable _) := by
  rw [Bool.eq_iff_iff, List.all_eq_true]
  simp only [decide_eq_true_eq]
  exact Iff.rfl
theorem IsJacobi_eq (p : Int) (a b : List Int) (k : Nat) (hk : 200 ≤ k) : impl_IsJacobi.f k p a b = some (jacB p a b) := by
  unfold impl_IsJacobi.f impl_Jacobi_size.f impl_length_int64.f impl_Jacobi_field.f
  rw [IsPrime_eq p k hk]
  simp only [Option.bind_some]
  by_cases hp : primeP p
  · rw [if_pos (primeB_iff.2 hp), within_eq]
    simp only [Option.bind_some]
    by_cases hl : 1 ≤ (a.length : Int) ∧ (a.length : Int) ≤ 12
    · rw [if_pos (by simpa using hl)]
      by_cases hs : (b.length : Int) = (a.length : Int)
      · rw [if_pos hs, all_has, InL_all]
        simp only [Option.bind_some]
        by_cases ha : InL 0 (p - 1) a
        · rw [if_pos (by simpa using ha), all_unit p b (by have := hp.1; omega) (by have := hp.2.1; omega), InL_all]
          simp only [Option.bind_some]
          congr 1
          rw [Bool.eq_iff_iff]
          simp only [decide_eq_true_eq, jacB_iff]
          exact ⟨fun hb => ⟨hp, by omega, by omega, by omega, ha, hb⟩, fun h => h.inb⟩
        · rw [if_neg (by simpa using ha)]
          have : ¬ JacP p a b := fun h => ha h.ina
          simp [jacB, this]
      · rw [if_neg hs]
        have : ¬ JacP p a b := fun h => hs (by have := h.same; omega)
        simp [jacB, this]
    · rw [if_neg (by simpa using hl)]
      have : ¬ JacP p a b := fun h => hl (by have := h.one; have := h.top; omega)
      simp [jacB, this]
  · rw [if_neg (by rw [primeB_iff]; exact hp)]
    have : ¬ JacP p a b := fun h => hp h.prime
    simp [jacB, this]
theorem InL_drop {lo hi : Int} {l : List Int} {i : Nat} (h : i < l.length) : InL lo hi (l.drop i) ↔ (lo ≤ l[i] ∧ l[i] ≤ hi) ∧ InL lo hi (l.drop (i + 1)) := by
  rw [List.drop_eq_getElem_cons h]
  unfold InL
  constructor
  · intro hx
    exact ⟨hx _ List.mem_cons_self, fun x h2 => hx x (List.mem_cons_of_mem _ h2)⟩
  · rintro ⟨h1, h2⟩ x hx
    rcases List.mem_cons.1 hx with rfl | hx
    · exact h1
    · exact h2 x hx
theorem l03Is_l0 (p : Int) (a b : List Int) (hp0 : -9223372036854775807 ≤ p) (hp1 : p ≤ 9223372036854775807) (hl : a.length ≤ 12) (hab : b.length = a.length) : ∀ (d k i : Nat), i + d = a.length → d < k →
    spec_l03Is.l0 k i p a b = some (@decide (InL 0 (p - 1) (a.drop i) ∧ InL 1 (p - 1) (b.drop i)) (Classical.propDecidable _))
  | 0, k, i, hd, hk => by
    obtain ⟨k, rfl⟩ : ∃ m, k = m + 1 := ⟨k - 1, by omega⟩
    simp only [spec_l03Is.l0]
    rw [if_neg (by omega), List.drop_eq_nil_of_le (by omega), List.drop_eq_nil_of_le (by omega)]
    simp [InL]
  | d + 1, k, i, hd, hk => by
    obtain ⟨k, rfl⟩ : ∃ m, k = m + 1 := ⟨k - 1, by omega⟩
    simp only [spec_l03Is.l0]
    have hi : i < a.length := by omega
    have hi2 : i < b.length := by omega
    rw [if_pos (by omega), if_pos (by omega), wrap_id (by omega) (by omega), rd_nat hi, rd_nat hi2, l01In_eq, l01In_eq]
    simp only [Option.bind_some]
    rw [wrap_id (by omega) (by omega)]
    by_cases h1 : 0 ≤ a[i] ∧ a[i] ≤ p - 1
    · rw [if_pos (by simpa using h1), if_pos (by omega)]
      by_cases h2 : 1 ≤ b[i] ∧ b[i] ≤ p - 1
      · rw [if_pos (by simpa using h2)]
        have := l03Is_l0 p a b hp0 hp1 hl hab d k (i + 1) (by omega) (by omega)
        rw [show ((i : Int) + 1) = ((i + 1 : Nat) : Int) from rfl, this]
        congr 1
        rw [Bool.eq_iff_iff]
        simp only [decide_eq_true_eq]
        rw [InL_drop hi, InL_drop hi2]
        exact ⟨fun h => ⟨⟨h1, h.1⟩, ⟨h2, h.2⟩⟩, fun h => ⟨h.1.2, h.2.2⟩⟩
      · rw [if_neg (by simpa using h2)]
        have : ¬ (InL 0 (p - 1) (a.drop i) ∧ InL 1 (p - 1) (b.drop i)) := fun h => h2 ((InL_drop hi2).1 h.2).1
        simp [this]
    · rw [if_neg (by simpa using h1)]
      have : ¬ (InL 0 (p - 1) (a.drop i) ∧ InL 1 (p - 1) (b.drop i)) := fun h => h1 ((InL_drop hi).1 h.1).1
      simp [this]
theorem l03Is_j0 (p : Int) (a b : List Int) (c : Bool) (k : Nat) (hk : 100 ≤ k) (hp : primeP p) (hc : c = false → 1 ≤ a.length ∧ a.length ≤ 12 ∧ b.length = a.length) (hc2 : c = true → ¬ (1 ≤ a.length ∧ a.length ≤ 12 ∧ b.length = a.length)) : spec_l03Is.j0 k c p a b = some (jacB p a b) := by
  obtain ⟨k, rfl⟩ : ∃ m, k = m + 1 := ⟨k - 1, by omega⟩
  simp only [spec_l03Is.j0]
  cases c with
  | true =>
    have : ¬ JacP p a b := fun h => hc2 rfl ⟨h.one, h.top, h.same⟩
    simp [jacB, this]
  | false =>
    obtain ⟨h1, h2, h3⟩ := hc rfl
    have := l03Is_l0 p a b (by have := hp.1; omega) (by have := hp.2.1; omega) h2 h3 a.length k 0 (by omega) (by omega)
    rw [if_neg (by simp)]
    rw [show ((0 : Int)) = ((0 : Nat) : Int) from rfl, this]
    congr 1
    rw [Bool.eq_iff_iff]
    simp only [decide_eq_true_eq, jacB_iff, List.drop_zero]
    exact ⟨fun h => ⟨hp, h1, h2, h3, h.1, h.2⟩, fun h => ⟨h.ina, h.inb⟩⟩
theorem l03Is_eq (p : Int) (a b : List Int) (k : Nat) (hk : 200 ≤ k) : spec_l03Is.f k p a b = some (jacB p a b) := by
  unfold spec_l03Is.f
  rw [l01Prime_eq p k hk]
  simp only [Option.bind_some]
  by_cases hp : primeP p
  · rw [if_pos (primeB_iff.2 hp)]
    by_cases h1 : (a.length : Int) < 1
    · rw [if_pos h1]; exact l03Is_j0 p a b _ k (by omega) hp (by simp) (fun _ => by omega)
    · rw [if_neg h1]
      by_cases h2 : (a.length : Int) > 12
      · rw [if_pos h2]; exact l03Is_j0 p a b _ k (by omega) hp (by simp) (fun _ => by omega)
      · rw [if_neg h2]
        refine l03Is_j0 p a b _ k (by omega) hp (fun h => ?_) (fun h => ?_)
        · simp at h; omega
        · simp at h; omega
  · rw [if_neg (by rw [primeB_iff]; exact hp)]
    obtain ⟨k, rfl⟩ : ∃ m, k = m + 1 := ⟨k - 1, by omega⟩
    have : ¬ JacP p a b := fun h => hp h.prime
    simp [jacB, this, spec_l03Is.j0]
end Go.Proofs.Ytlodpobegdbhaaa.Pl

/- Part of the proof of the law FnPathCounts. -/
namespace Go.Proofs.Ytlodpobegdbhaaa.Pl
open Go.RowKit Go.Proofs.YtlodpobegdbhaaaW.PrintWords Go.Proofs.YtlodpobegdbhaaaW.PrintMore Go.Proofs.Ytlodpobegdbhaaa.X
set_option linter.unusedVariables false
set_option linter.unusedSimpArgs false
set_option maxRecDepth 20000
def wgt (p : Int) (a b : List Int) : Int → List Int → List UInt8 → Int
  | x, h :: hs, c :: cs => wgt p a b (if c = 76 then x * rd a h % p else if c = 68 then x * rd b h % p else x) hs cs
  | x, _, _ => x
theorem wgt_nil (p : Int) (a b : List Int) (x : Int) (H : List Int) : wgt p a b x H [] = x := by
  cases H <;> simp only [wgt]
theorem JacP_a {p : Int} {a b : List Int} (hJ : JacP p a b) {h : Int} (h0 : 0 ≤ h) (h1 : h < (a.length : Int)) : 0 ≤ rd a h ∧ rd a h < p := by
  obtain ⟨n, rfl⟩ : ∃ n : Nat, h = n := ⟨h.toNat, by omega⟩
  have hn : n < a.length := by omega
  rw [rd_nat hn]
  have := hJ.ina a[n] (List.getElem_mem hn)
  omega
theorem JacP_b {p : Int} {a b : List Int} (hJ : JacP p a b) {h : Int} (h0 : 0 ≤ h) (h1 : h < (a.length : Int)) : 0 ≤ rd b h ∧ rd b h < p := by
  obtain ⟨n, rfl⟩ : ∃ n : Nat, h = n := ⟨h.toNat, by omega⟩
  have hs := hJ.same
  have hn : n < b.length := by omega
  rw [rd_nat hn]
  have := hJ.inb b[n] (List.getElem_mem hn)
  omega
theorem Weight_l0 (p : Int) (a b : List Int) (hJ : JacP p a b) (s : ByteArray) (hs : s.size ≤ 1000) (H : List Int) (hH : ∀ h ∈ H, 0 ≤ h ∧ h < (a.length : Int)) (hl : H.length = s.size + 1) : ∀ (d j K : Nat) (x : Int), j + d = s.size → d < K → 0 ≤ x → x < p →
    impl_WeightOfPath.l0 K H p x (bytesOf s) ((bytesOf s).length : Int) j p a b = some (wgt p a b x (H.drop j) ((lt_ s).drop j), 0)
  | 0, j, K, x, hj, hK, hx0, hx => by
    obtain ⟨K, rfl⟩ : ∃ q, K = q + 1 := ⟨K - 1, by omega⟩
    have hl2 := lt_length s
    rw [impl_WeightOfPath.l0, if_neg (by rw [bytesOf_lt, List.length_map]; omega)]
    rw [List.drop_eq_nil_of_le (show (lt_ s).length ≤ j by omega)]
    rw [wgt_nil]
  | d + 1, j, K, x, hj, hK, hx0, hx => by
    obtain ⟨K, rfl⟩ : ∃ q, K = q + 1 := ⟨K - 1, by omega⟩
    have hl2 := lt_length s
    have hp := hJ.prime
    have hp1 := hp.2.1
    have hp0 : 0 < p := Int.lt_of_lt_of_le (by decide) hp.1
    have hp2 : p ≤ 20000 := Int.le_trans hp1 (by decide)
    have hx2 : x ≤ 20000 := Int.le_of_lt (Int.lt_of_lt_of_le hx hp2)
    have hi : j < (lt_ s).length := by omega
    have hi2 : j < H.length := by omega
    have q : (j : Int) < ((bytesOf s).length : Int) := by rw [bytesOf_lt, List.length_map]; omega
    have q2 : (j : Int) < (H.length : Int) := by omega
    have hw : wrap64 ((j : Int) + 1) = ((j + 1 : Nat) : Int) := by rw [wrap_id (by omega) (by omega)]; omega
    have ih := fun x hx0 hx => Weight_l0 p a b hJ s hs H hH hl d (j + 1) K x (by omega) (by omega) hx0 hx
    have hb := hH H[j] (List.getElem_mem hi2)
    have hb2 : H[j] < (b.length : Int) := by rw [hJ.same]; exact hb.2
    rw [List.drop_eq_getElem_cons hi, List.drop_eq_getElem_cons hi2]
    rw [impl_WeightOfPath.l0, if_pos q, if_pos (Int.natCast_nonneg j), if_pos q, bytes_rd hi, rd_nat hi2, hw, if_pos q2, if_pos hb.1, if_pos hb.2, if_pos hb2, wgt]
    by_cases h1 : (lt_ s)[j] = 76
    · have ha := JacP_a hJ hb.1 hb.2
      have hm := mod_lt (p := p) (x := x * rd a H[j]) hp0
      rw [if_pos (u76.2 h1), if_pos h1, fmul_eq p x _ hp0 hp1 hx0 hx2 ha.1 (Int.le_of_lt (Int.lt_of_lt_of_le ha.2 hp2)), Option.bind_some, ih _ hm.1 hm.2]
    · rw [if_neg (fun h => h1 (u76.1 h)), if_neg h1]
      by_cases h2 : (lt_ s)[j] = 68
      · have ha := JacP_b hJ hb.1 hb.2
        have hm := mod_lt (p := p) (x := x * rd b H[j]) hp0
        rw [if_pos (u68.2 h2), if_pos h2, if_pos q2, if_pos hb.1, fmul_eq p x _ hp0 hp1 hx0 hx2 ha.1 (Int.le_of_lt (Int.lt_of_lt_of_le ha.2 hp2)), Option.bind_some, ih _ hm.1 hm.2]
      · rw [if_neg (fun h => h2 (u68.1 h)), if_neg h2, ih x hx0 hx]
theorem spec_Weight_l1 (p : Int) (a b : List Int) (hJ : JacP p a b) (s : ByteArray) (hs : s.size ≤ 1000) (H : List Int) (hH : ∀ h ∈ H, 0 ≤ h ∧ h < (a.length : Int)) (hl : H.length = s.size + 1) : ∀ (d j K : Nat) (x : Int), j + d = s.size → d < K → 0 ≤ x → x < p →
    spec_WeightOfPath.l1 K s H x j p a b = some (wgt p a b x (H.drop j) ((lt_ s).drop j), 0)
  | 0, j, K, x, hj, hK, hx0, hx => by
    obtain ⟨K, rfl⟩ : ∃ q, K = q + 1 := ⟨K - 1, by omega⟩
    have hl2 := lt_length s
    rw [spec_WeightOfPath.l1, if_neg (by omega)]
    rw [List.drop_eq_nil_of_le (show (lt_ s).length ≤ j by omega)]
    rw [wgt_nil]
  | d + 1, j, K, x, hj, hK, hx0, hx => by
    obtain ⟨K, rfl⟩ : ∃ q, K = q + 1 := ⟨K - 1, by omega⟩
    have hl2 := lt_length s
    have hp := hJ.prime
    have hp1 := hp.2.1
    have hp0 : 0 < p := Int.lt_of_lt_of_le (by decide) hp.1
    have hpn : ¬ p = 0 := fun h => by rw [h] at hp0; exact absurd hp0 (by decide)
    have hp2 : p ≤ 20000 := Int.le_trans hp1 (by decide)
    have hx2 : x ≤ 20000 := Int.le_of_lt (Int.lt_of_lt_of_le hx hp2)
    have hi : j < (lt_ s).length := by omega
    have hi2 : j < H.length := by omega
    have q : (j : Int) < (s.size : Int) := by omega
    have q2 : (j : Int) < (H.length : Int) := by omega
    have hw : wrap64 ((j : Int) + 1) = ((j + 1 : Nat) : Int) := by rw [wrap_id (by omega) (by omega)]; omega
    have ih := fun x hx0 hx => spec_Weight_l1 p a b hJ s hs H hH hl d (j + 1) K x (by omega) (by omega) hx0 hx
    have hb := hH H[j] (List.getElem_mem hi2)
    have hb2 : H[j] < (b.length : Int) := by rw [hJ.same]; exact hb.2
    rw [List.drop_eq_getElem_cons hi, List.drop_eq_getElem_cons hi2]
    rw [spec_WeightOfPath.l1, if_pos q, if_pos (Int.natCast_nonneg j), ← rd_bytesOf, bytes_rd hi, rd_nat hi2, hw, if_pos q2, if_pos hb.1, if_pos hb.2, if_pos hb2, if_neg hpn, if_neg hpn, wgt]
    by_cases h1 : (lt_ s)[j] = 76
    · have ha := JacP_a hJ hb.1 hb.2
      have hm := mod_lt (p := p) (x := x * rd a H[j]) hp0
      rw [if_pos (u76.2 h1), if_pos h1, tmod_mul hx0 hx2 ha.1 (Int.le_of_lt (Int.lt_of_lt_of_le ha.2 hp2)), ih _ hm.1 hm.2]
    · rw [if_neg (fun h => h1 (u76.1 h)), if_neg h1]
      by_cases h2 : (lt_ s)[j] = 68
      · have ha := JacP_b hJ hb.1 hb.2
        have hm := mod_lt (p := p) (x := x * rd b H[j]) hp0
        rw [if_pos (u68.2 h2), if_pos h2, if_pos q2, if_pos hb.1, tmod_mul hx0 hx2 ha.1 (Int.le_of_lt (Int.lt_of_lt_of_le ha.2 hp2)), ih _ hm.1 hm.2]
      · rw [if_neg (fun h => h2 (u68.1 h)), if_neg h2, ih x hx0 hx]
theorem Max_l0 (L : List Int) (hL : L.length ≤ 10000) (n : Int) : ∀ (d j K : Nat) (m : Int), j + d = L.length → d < K → ∃ y, slices_Max_int64_int64.l0 K L m j = some y ∧ (y ≥ n ↔ m ≥ n ∨ ∃ h ∈ L.drop j, h ≥ n)
  | 0, j, K, m, hj, hK => by
    obtain ⟨K, rfl⟩ : ∃ q, K = q + 1 := ⟨K - 1, by omega⟩
    refine ⟨m, ?_, ?_⟩
    · rw [slices_Max_int64_int64.l0, if_neg (by omega)]
    · rw [List.drop_eq_nil_of_le (by omega)]; simp
  | d + 1, j, K, m, hj, hK => by
    obtain ⟨K, rfl⟩ : ∃ q, K = q + 1 := ⟨K - 1, by omega⟩
    have hi : j < L.length := by omega
    obtain ⟨y, hy, he⟩ := Max_l0 L hL n d (j + 1) K (mx m L[j]) (by omega) (by omega)
    refine ⟨y, ?_, ?_⟩
    · rw [slices_Max_int64_int64.l0, if_pos (by omega), if_pos (by omega), rd_nat hi, wrap_id (by omega) (by omega), show ((j : Int) + 1) = ((j + 1 : Nat) : Int) by omega, hy]
    · rw [he, List.drop_eq_getElem_cons hi]
      simp only [List.mem_cons, exists_eq_or_imp]
      have : mx m L[j] ≥ n ↔ m ≥ n ∨ L[j] ≥ n := by unfold mx; split <;> omega
      rw [this, or_assoc]
theorem Max_eq (h : Int) (t : List Int) (hL : t.length ≤ 9000) (n : Int) (K : Nat) (hK : 10000 ≤ K) : ∃ y, slices_Max_int64_int64.f K (h :: t) = some y ∧ (y ≥ n ↔ ∃ z ∈ h :: t, z ≥ n) := by
  obtain ⟨y, hy, he⟩ := Max_l0 (h :: t) (by simp; omega) n t.length 1 K h (by simp; omega) (by omega)
  refine ⟨y, ?_, ?_⟩
  · rw [slices_Max_int64_int64.f, if_neg (by rw [List.length_cons]; omega), if_pos (by rw [List.length_cons]; omega)]
    exact hy
  · rw [he]; simp
noncomputable def wAns (p : Int) (a b : List Int) (s : ByteArray) (i : Int) : Int × Int :=
  if jacB p a b = true then (if (phAns s i ((a.length : Int) - 1)).2 = true ∧ ∀ h ∈ (phAns s i ((a.length : Int) - 1)).1, h < (a.length : Int) then (wgt p a b 1 (phAns s i ((a.length : Int) - 1)).1 (lt_ s), 0) else (0, 2)) else (0, 1)
theorem phAns_some {s : ByteArray} {i most : Int} (h : (phAns s i most).2 = true) : ∃ l : List Nat, hts' i.toNat (lt_ s) = some l ∧ (phAns s i most).1 = i :: ints l ∧ 0 ≤ i ∧ i ≤ most ∧ s.size ≤ 24 ∧ l.length = s.size := by
  unfold phAns at h ⊢
  by_cases c : s.size ≤ 24 ∧ 0 ≤ i ∧ i ≤ most
  · rw [if_pos c] at h ⊢
    cases hh : hts' i.toNat (lt_ s) with
    | none => rw [hh] at h; simp [hAns] at h
    | some l =>
      refine ⟨l, rfl, ?_, c.2.1, c.2.2, c.1, ?_⟩
      · simp [hAns]
      · rw [(hts'_fin _ _ _ hh).1, lt_length]
  · rw [if_neg c] at h; simp at h
theorem WeightOfPath_eq (p : Int) (a b : List Int) (s : ByteArray) (i : Int) (K : Nat) (hK : 30000 ≤ K) : impl_WeightOfPath.f K p a b s i = some (wAns p a b s i) := by
  rw [impl_WeightOfPath.f, IsJacobi_eq p a b K (by omega), Option.bind_some]
  unfold wAns
  by_cases hj : jacB p a b = true
  · rw [if_pos hj, if_pos hj]
    have hJ := jacB_iff.1 hj
    have hsz : impl_Jacobi_size.f p a b = some (a.length : Int) := rfl
    have h1 := hJ.one
    have h2 := hJ.top
    rw [hsz, Option.bind_some, wrap_id (by omega) (by omega), pathHeights_eq s i _ (by omega) K (by omega), Option.bind_some]
    obtain ⟨K, rfl⟩ : ∃ q, K = q + 1 := ⟨K - 1, by omega⟩
    by_cases ho : (phAns s i ((a.length : Int) - 1)).2 = true
    · obtain ⟨l, hl, he, hi0, hi1, hss, hll⟩ := phAns_some ho
      rw [if_pos ho, he]
      obtain ⟨y, hy, hyn⟩ := Max_eq i (ints l) (by simp [ints]; omega) (a.length : Int) (K + 1) (by omega)
      rw [hy, Option.bind_some, Option.bind_some, impl_WeightOfPath.j0]
      by_cases hc : ∀ h ∈ i :: ints l, h < (a.length : Int)
      · rw [if_neg (by
          simp only [decide_eq_true_eq]
          rw [hyn]
          rintro ⟨z, hz, hzn⟩
          have := hc z hz
          omega), if_pos ⟨ho, hc⟩]
        have hp := hJ.prime
        rw [show impl_Jacobi_field.f p a b = some p from rfl, Option.bind_some, fmod_eq p 1 (by have := hp.1; omega) hp.2.1, Option.bind_some, Int.emod_eq_of_lt (by omega) (by have := hp.1; omega), if_pos (by omega), Option.bind_some]
        have := Weight_l0 p a b hJ s (by omega) (i :: ints l) (fun h hh => ⟨by
          rcases List.mem_cons.1 hh with rfl | hh
          · exact hi0
          · obtain ⟨n, _, rfl⟩ := List.mem_map.1 hh; omega, hc h hh⟩) (by simp [ints]; omega) s.size 0 K 1 (by omega) (by omega) (by omega) (by have := hp.1; omega)
        exact this
      · rw [if_pos (by
          simp only [decide_eq_true_eq]
          rw [hyn]
          exact Classical.byContradiction fun hn => hc fun h hh => Classical.byContradiction fun hlt => hn ⟨h, hh, by omega⟩), if_neg (fun h => hc h.2)]
    · rw [if_neg ho, if_neg (fun h => ho h.1), impl_WeightOfPath.j0, if_pos rfl]
  · rw [if_neg hj, if_neg hj]
theorem spec_Weight_l0 (p : Int) (a b : List Int) (s : ByteArray) (H : List Int) (hl : H.length ≤ 10000) : ∀ (d j K : Nat) (ok : Bool), j + d = H.length → d < K →
    spec_WeightOfPath.l0 (K + 1) s H ok j p a b = if ok = true ∧ ∀ h ∈ H.drop j, h < (a.length : Int) then (spec_WeightOfPath.l0 (K - d + 1) s H true H.length p a b) else some (0, 2)
  | 0, j, K, ok, hj, hK => by
    rw [List.drop_eq_nil_of_le (by omega)]
    obtain rfl : j = H.length := by omega
    cases ok
    · rw [spec_WeightOfPath.l0, if_neg (by omega), if_neg (by simp), if_neg (by simp)]
    · rw [if_pos (by simp)]; rfl
  | d + 1, j, K, ok, hj, hK => by
    obtain ⟨K, rfl⟩ : ∃ q, K = q + 1 := ⟨K - 1, by omega⟩
    have hi : j < H.length := by omega
    have hw : wrap64 ((j : Int) + 1) = ((j + 1 : Nat) : Int) := by rw [wrap_id (by omega) (by omega)]; omega
    rw [spec_WeightOfPath.l0, if_pos (by omega), hw, List.drop_eq_getElem_cons hi, show K + 1 - (d + 1) = K - d by omega]
    cases ok
    · rw [if_neg (by simp), if_neg (by simp), spec_Weight_l0 p a b s H hl d (j + 1) K false (by omega) (by omega), if_neg (by simp)]
    · rw [if_pos rfl, if_pos (by omega), rd_nat hi, spec_Weight_l0 p a b s H hl d (j + 1) K _ (by omega) (by omega)]
      have e : (decide (H[j] < (a.length : Int)) = true ∧ ∀ h ∈ H.drop (j + 1), h < (a.length : Int)) ↔ (true = true ∧ ∀ h ∈ H[j] :: H.drop (j + 1), h < (a.length : Int)) := by
        rw [List.forall_mem_cons, decide_eq_true_eq]
        exact ⟨fun h => ⟨rfl, h⟩, fun h => h.2⟩
      simp only [e]
theorem l09Code_eq (p : Int) (a b : List Int) (i : Int) (K : Nat) (hK : 1000 ≤ K) : spec_l09Code.f K p a b 0 [i] = some (if jacB p a b = true then (if 0 ≤ i ∧ i ≤ (a.length : Int) - 1 then 0 else 2) else 1) := by
  rw [spec_l09Code.f, l03Is_eq p a b K (by omega), Option.bind_some]
  by_cases hj : jacB p a b = true
  · have hJ := jacB_iff.1 hj
    have h1 := hJ.one
    have h2 := hJ.top
    obtain ⟨K, rfl⟩ : ∃ q, K = q + 1 + 1 := ⟨K - 2, by omega⟩
    rw [if_pos hj, if_pos hj, l01In_eq, Option.bind_some, if_pos (by decide), spec_l09Code.l0, if_pos (by simp), if_pos (by omega), l01In_eq, Option.bind_some, wrap_id (by omega) (by omega)]
    have hr : rd [i] 0 = i := rfl
    rw [hr]
    by_cases h3 : 0 ≤ i ∧ i ≤ (a.length : Int) - 1
    · rw [if_pos (by simpa using h3), if_pos h3, spec_l09Code.l0, wrap_id (by omega) (by omega), if_neg (by simp)]
    · rw [if_neg (by simpa using h3), if_neg h3]
  · rw [if_neg hj, if_neg hj]
theorem spec_WeightOfPath_eq (p : Int) (a b : List Int) (s : ByteArray) (hs : s.size ≤ 2000) (i : Int) (K : Nat) (hK : 30000 ≤ K) : spec_WeightOfPath.f K p a b s i = some (wAns p a b s i) := by
  rw [spec_WeightOfPath.f, l09Code_eq p a b i K (by omega), Option.bind_some]
  unfold wAns
  by_cases hj : jacB p a b = true
  · rw [if_pos hj, if_pos hj]
    have hJ := jacB_iff.1 hj
    have h1 := hJ.one
    have h2 := hJ.top
    by_cases h3 : 0 ≤ i ∧ i ≤ (a.length : Int) - 1
    · rw [if_pos h3, if_pos rfl]
      obtain ⟨c, rfl⟩ : ∃ c : Nat, i = c := ⟨i.toNat, by omega⟩
      rw [Heights_eq s (by omega) c K (by omega) (by omega), Option.bind_some]
      obtain ⟨K, rfl⟩ : ∃ q, K = q + 1 + 1 := ⟨K - 2, by omega⟩
      cases hh : hts' c (lt_ s) with
      | none =>
        have : phAns s c ((a.length : Int) - 1) = ([], false) := by
          unfold phAns
          split
          · rw [Int.toNat_natCast, hh]; rfl
          · rfl
        rw [this, if_neg (by simp)]
        have := spec_Weight_l0 p a b s [] (by simp) 0 0 (K + 1) false (by simp) (by omega)
        rw [if_neg (by simp)] at this
        exact this
      | some l =>
        have hll := (hts'_fin _ _ _ hh).1
        rw [lt_length] at hll
        have hA : hAns [(c : Int)] (some l) (decide ((s.size : Int) ≤ 24)) = ((c : Int) :: ints l, decide ((s.size : Int) ≤ 24)) := by simp [hAns]
        rw [hA]
        have := spec_Weight_l0 p a b s ((c : Int) :: ints l) (by simp [ints]; omega) (l.length + 1) 0 (K + 1) (decide ((s.size : Int) ≤ 24)) (by simp [ints]) (by omega)
        show spec_WeightOfPath.l0 (K + 1 + 1) s ((c : Int) :: ints l) (decide ((s.size : Int) ≤ 24)) 0 p a b = _
        rw [show (0 : Int) = ((0 : Nat) : Int) from rfl, this, List.drop_zero]
        by_cases h4 : s.size ≤ 24
        · have hP : phAns s c ((a.length : Int) - 1) = ((c : Int) :: ints l, true) := by
            unfold phAns
            rw [if_pos ⟨h4, h3⟩, Int.toNat_natCast, hh]; simp [hAns]
          rw [hP]
          by_cases hc : ∀ h ∈ (c : Int) :: ints l, h < (a.length : Int)
          · have hp := hJ.prime
            have hp0 := hp.1
            rw [if_pos ⟨by simp; omega, hc⟩, if_pos ⟨rfl, hc⟩, spec_WeightOfPath.l0, if_neg (by omega), if_pos rfl, if_neg (by omega), Int.emod_eq_of_lt (by omega) (by omega)]
            have := spec_Weight_l1 p a b hJ s (by omega) ((c : Int) :: ints l) (fun h hm => ⟨by
              rcases List.mem_cons.1 hm with rfl | hm
              · omega
              · obtain ⟨n, _, rfl⟩ := List.mem_map.1 hm; omega, hc h hm⟩) (by simp [ints]; omega) s.size 0 (K + 1 - (l.length + 1)) 1 (by omega) (by omega) (by omega) (by omega)
            exact this
          · rw [if_neg (fun h => hc h.2), if_neg (fun h => hc h.2)]; rfl
        · have hP : phAns s c ((a.length : Int) - 1) = ([], false) := by
            unfold phAns
            rw [if_neg (fun h => h4 h.1)]
          rw [hP, if_neg (by simp; omega), if_neg (by simp)]; rfl
    · have hP : phAns s i ((a.length : Int) - 1) = ([], false) := by
        unfold phAns
        rw [if_neg (fun h => h3 h.2)]
      rw [if_neg h3, if_neg (by decide), hP, if_neg (by simp)]
  · rw [if_neg hj, if_neg hj, if_neg (by decide)]
end Go.Proofs.Ytlodpobegdbhaaa.Pl

/- Part of the proof of the law FnPathCounts. -/
namespace Go.Proofs.Ytlodpobegdbhaaa.Pl
open Go.RowKit Go.Proofs.YtlodpobegdbhaaaW.PrintWords Go.Proofs.YtlodpobegdbhaaaW.PrintMore Go.Proofs.Ytlodpobegdbhaaa.X
set_option linter.unusedVariables false
set_option linter.unusedSimpArgs false
set_option maxRecDepth 20000
theorem like_l0 (l : List Int) (hl : l.length ≤ 1000000) : ∀ (d j K : Nat), j + d = l.length → d < K → laws_likeInts.l0 K l l j = some true
  | 0, j, K, hj, hK => by
    obtain ⟨K, rfl⟩ : ∃ q, K = q + 1 := ⟨K - 1, by omega⟩
    rw [laws_likeInts.l0, if_neg (by omega)]
  | d + 1, j, K, hj, hK => by
    obtain ⟨K, rfl⟩ : ∃ q, K = q + 1 := ⟨K - 1, by omega⟩
    have hw : wrap64 ((j : Int) + 1) = ((j + 1 : Nat) : Int) := by rw [wrap_id (by omega) (by omega)]; omega
    rw [laws_likeInts.l0, if_pos (by omega), if_pos (by omega), if_pos (by omega), if_pos rfl, hw, like_l0 l hl d (j + 1) K (by omega) (by omega)]
theorem like_eq (l : List Int) (hl : l.length ≤ 10000) (K : Nat) (hK : 20000 ≤ K) : laws_likeInts.f K l l = some true := by
  rw [laws_likeInts.f, if_pos rfl]
  exact like_l0 l (by omega) l.length 0 K (by omega) (by omega)
theorem hof_len (s : ByteArray) (i : Int) : (hofAns s i).1.length ≤ 100 := by
  unfold hofAns
  split
  · rename_i h
    obtain ⟨l, _, he, _, _, hs, hl⟩ := phAns_some h
    rw [he]
    simp [ints]
    omega
  · simp
theorem j6_ok {c : List Int} (hc : Code_ c) (K : Nat) (hK : 200000 ≤ K) : laws_FnPathCounts.j6 K c = some true := by
  obtain ⟨K, rfl⟩ : ∃ q, K = q + 1 := ⟨K - 1, by omega⟩
  obtain ⟨p, a, b, s, i, d1, hs, ha, hb⟩ := DrawWeightOfPath_ok hc K (by omega)
  obtain ⟨n2, i2, k2, t2, d2⟩ := DrawCountPaths_ok hc K (by omega)
  obtain ⟨n3, i3, k3, t3, d3⟩ := DrawCountLevelPaths_ok hc K (by omega)
  obtain ⟨s4, i4, d4, hs4⟩ := DrawHeightsOf_ok hc K (by omega)
  rw [laws_FnPathCounts.j6, d1, Option.bind_some]
  dsimp only
  rw [WeightOfPath_eq p a b s i K (by omega), Option.bind_some, spec_WeightOfPath_eq p a b s (by omega) i K (by omega), Option.bind_some, d2, Option.bind_some]
  dsimp only
  rw [CountPaths_eq _ _ _ _ K (by omega), Option.bind_some, spec_CountPaths_eq _ _ _ _ K (by omega), Option.bind_some, d3, Option.bind_some]
  dsimp only
  rw [CountLevelPaths_eq _ _ _ _ K (by omega), Option.bind_some, spec_CountLevelPaths_eq _ _ _ _ K (by omega), Option.bind_some, d4, Option.bind_some]
  dsimp only
  rw [HeightsOf_eq _ _ K (by omega), Option.bind_some, spec_HeightsOf_eq _ _ (by omega) K (by omega), Option.bind_some, if_pos rfl, if_pos rfl, if_pos rfl, if_pos rfl, if_pos rfl, if_pos rfl, if_pos rfl, like_eq _ (by have := hof_len s4 i4; omega) K (by omega)]
  rfl
theorem j5_ok {c : List Int} (hc : Code_ c) (m l : Int) (K : Nat) (hK : 200001 ≤ K) : laws_FnPathCounts.j5 K c m l (cntAns false m 0 l 24).1 (cntAns false m 0 l 24).2 false = some true := by
  obtain ⟨K, rfl⟩ : ∃ q, K = q + 1 := ⟨K - 1, by omega⟩
  rw [laws_FnPathCounts.j5, if_neg (by simp)]
  by_cases h : (cntAns false m 0 l 24).2 = 0
  · rw [if_pos h, CountLevelPaths_eq _ _ _ _ K (by omega), Option.bind_some, if_pos h, if_pos rfl, j6_ok hc K (by omega)]
  · rw [if_neg h, j6_ok hc K (by omega)]
theorem j4_ok {c : List Int} (hc : Code_ c) (K : Nat) (hK : 200002 ≤ K) : laws_FnPathCounts.j4 K c = some true := by
  obtain ⟨K, rfl⟩ : ∃ q, K = q + 1 := ⟨K - 1, by omega⟩
  obtain ⟨m, l, d1⟩ := DrawBallotNumber_ok hc K (by omega)
  rw [laws_FnPathCounts.j4, d1, Option.bind_some]
  dsimp only
  rw [BallotNumber_eq _ _ K (by omega), Option.bind_some, spec_BallotNumber_eq _ _ K (by omega), Option.bind_some, if_pos rfl, show ((cntAns false m 0 l 24).1 != (cntAns false m 0 l 24).1) = false by simp, j5_ok hc m l K (by omega)]
theorem last_eq (i : Nat) (l : List Nat) (hl : l.length ≤ 1000) : wrap64 ((((i : Int) :: ints l).length : Int) - 1) = (l.length : Int) ∧ rd ((i : Int) :: ints l) (l.length : Int) = (((i :: l).getLastD 0 : Nat) : Int) := by
  have h1 : ((i : Int) :: ints l) = ints (i :: l) := rfl
  constructor
  · rw [wrap_id (by simp only [ints, List.length_cons, List.length_map]; omega) (by simp only [ints, List.length_cons, List.length_map]; omega)]; simp [ints]
  · rw [h1, rd_nat (by simp [ints])]
    have : (ints (i :: l))[l.length]'(by simp [ints]) = (((i :: l)[l.length]'(by simp) : Nat) : Int) := by simp only [ints, List.getElem_map]
    rw [this, List.getLastD_eq_getLast?, List.getLast?_eq_getElem?]
    simp
theorem j3_ok {c : List Int} (hc : Code_ c) (s : ByteArray) (hs : s.size ≤ 10000) (i : Int) (K : Nat) (hK : 200003 ≤ K) : laws_FnPathCounts.j3 K c s i (revAns s i).1 (revAns s i).2 false = some true := by
  obtain ⟨K, rfl⟩ : ∃ q, K = q + 1 := ⟨K - 1, by omega⟩
  rw [laws_FnPathCounts.j3, if_neg (by simp)]
  by_cases h : (phAns s i 24).2 = true
  · obtain ⟨l, hl, he, hi0, hi1, hss, hb⟩ := rev_back s i h
    obtain ⟨n, rfl⟩ : ∃ n : Nat, i = n := ⟨i.toNat, by omega⟩
    rw [Int.toNat_natCast] at hl hb
    have hR : revAns s n = (bs (rv (lt_ s)), 0) := by unfold revAns; rw [if_pos h]
    have hH : hofAns s n = ((n : Int) :: ints l, 0) := by unfold hofAns; rw [if_pos h, he]
    obtain ⟨hll, hf, _⟩ := hts'_fin _ _ _ hl
    rw [lt_length] at hll
    have hL := last_eq n l (by omega)
    rw [hR, if_pos rfl, HeightsOf_eq _ _ K (by omega), Option.bind_some, hH, if_pos rfl]
    dsimp only
    rw [hL.1, if_pos (by omega), if_pos (by simp [ints]; omega), hL.2]
    by_cases h24 : (((n :: l).getLastD 0 : Nat) : Int) ≤ 24
    · have hB := hb _ hf (by omega)
      rw [if_pos h24, ReversePath_eq _ _ (by rw [bs_size, rv_length, lt_length]; omega) K (by omega), Option.bind_some, hB, if_pos rfl, if_pos rfl, j4_ok hc K (by omega)]
    · rw [if_neg h24, j4_ok hc K (by omega)]
  · have hR : revAns s i = ((⟨#[]⟩ : ByteArray), 2) := by unfold revAns; rw [if_neg h]
    rw [hR, if_neg (by decide), j4_ok hc K (by omega)]
theorem tail_ok {c : List Int} (hc : Code_ c) (n i k : Int) (X Y : List ByteArray) (j : Int) (hj : ¬ j < (X.length : Int)) (K : Nat) (hK : 200004 ≤ K) : laws_FnPathCounts.l0 K c n i k X Y j = some true := by
  obtain ⟨K, rfl⟩ : ∃ q, K = q + 1 := ⟨K - 1, by omega⟩
  obtain ⟨s, a, d1, hs⟩ := DrawReversePath_ok hc K (by omega)
  rw [laws_FnPathCounts.l0, if_neg hj, d1, Option.bind_some]
  dsimp only
  rw [ReversePath_eq _ _ (by omega) K (by omega), Option.bind_some, spec_ReversePath_eq _ _ (by omega) K (by omega), Option.bind_some, if_pos rfl, show ((revAns s a).1.toList != (revAns s a).1.toList) = false by simp, j3_ok hc s (by omega) a K (by omega)]
theorem loop_ok {c : List Int} (hc : Code_ c) {n i k : Nat} (hn : n ≤ 24) (hi : i ≤ 24) (X : List (List UInt8)) (hX : ∀ x ∈ X, x.length = n ∧ fin_ i x = some k) (hl : X.length ≤ 400) : ∀ (d j K : Nat), j + d = X.length → 200005 + d ≤ K → laws_FnPathCounts.l0 K c n i k (X.map bs) (X.map bs) j = some true
  | 0, j, K, hj, hK => tail_ok hc n i k _ _ j (by rw [List.length_map]; omega) K (by omega)
  | d + 1, j, K, hj, hK => by
    obtain ⟨K, rfl⟩ : ∃ q, K = q + 1 := ⟨K - 1, by omega⟩
    have hw : wrap64 ((j : Int) + 1) = ((j + 1 : Nat) : Int) := by rw [wrap_id (by omega) (by omega)]; omega
    have hw2 : wrap64 ((n : Int) + 1) = ((n + 1 : Nat) : Int) := by rw [wrap_id (by omega) (by omega)]; omega
    have ih := loop_ok hc hn hi X hX hl d (j + 1) K (by omega) (by omega)
    have hlt : j < X.length := by omega
    have q : (j : Int) < ((X.map bs).length : Int) := by rw [List.length_map]; omega
    obtain ⟨hxl, hf⟩ := hX X[j] (List.getElem_mem hlt)
    obtain ⟨l, hh⟩ := fin_hts' _ _ _ hf
    obtain ⟨hll, hf2, _⟩ := hts'_fin _ _ _ hh
    have hk : (i :: l).getLastD 0 = k := by rw [hf] at hf2; exact (Option.some.inj hf2).symm
    have hL := last_eq i l (by omega)
    have hP : phAns (bs X[j]) i 24 = ((i : Int) :: ints l, true) := by
      unfold phAns
      rw [if_pos ⟨by rw [bs_size]; omega, by omega, by omega⟩, Int.toNat_natCast, lt_bs, hh]
      simp [hAns]
    have hH : hofAns (bs X[j]) i = ((i : Int) :: ints l, 0) := by
      unfold hofAns
      rw [hP, if_pos rfl]
    have hlen : ((i : Int) :: ints l).length = n + 1 := by simp [ints]; omega
    rw [laws_FnPathCounts.l0, if_pos q, if_pos (Int.natCast_nonneg j), rdOf_map X hlt, HeightsOf_eq _ _ K (by omega), Option.bind_some, if_pos q, if_pos rfl, hH, if_pos rfl]
    dsimp only
    rw [hlen, hw2, if_pos rfl, if_pos (Int.natCast_nonneg n), if_pos (by omega), show (n : Int) = (l.length : Int) by omega, hL.2, hk, if_pos rfl, hw, show (l.length : Int) = (n : Int) by omega, ih]
theorem Pure_ok {c : List Int} (hc : c.length ≤ 4096 → Code_ c) : laws_FnPathCounts.f 300000 c = some true := by
  rw [laws_FnPathCounts.f, laws_big.f, Option.bind_some]
  by_cases hb : c.length > 4096
  · rw [if_pos (by simp; omega)]
  · rw [if_neg (by simp; omega)]
    have hc := hc (by omega)
    obtain ⟨n, i, k, t, d1⟩ := DrawPathsOf_ok hc 300000 (by omega)
    rw [d1, Option.bind_some]
    dsimp only
    rw [PathsOf_eq _ _ _ _ 300000 (by omega), Option.bind_some, spec_PathsOf_eq _ _ _ _ 300000 (by omega), Option.bind_some, if_pos rfl, show (((lstAns n i k t).1.length : Int) != ((lstAns n i k t).1.length : Int)) = false by simp]
    rw [show (300000 : Nat) = 299999 + 1 from rfl, laws_FnPathCounts.j0, if_neg (by simp), CountPaths_eq _ _ _ _ 299999 (by omega), Option.bind_some, CountLevelPaths_eq _ _ _ _ 299999 (by omega), Option.bind_some]
    have hj1 : ∀ b, b = false → laws_FnPathCounts.j1 299999 c n i k (lstAns n i k t).1 (lstAns n i k t).1 b = some true := by
      rintro b rfl
      rw [show (299999 : Nat) = 299998 + 1 from rfl, laws_FnPathCounts.j1, if_neg (by simp)]
      unfold lstAns
      by_cases h4 : cd4 n i k t = true
      · rw [if_pos h4]
        obtain ⟨n', i', k', t', rfl, rfl, rfl, rfl, hn, hi, hk, ht⟩ := cd4_nat h4
        simp only [Int.toNat_natCast]
        by_cases hg : countN true n' i' k' t' > 400
        · rw [if_pos hg]
          exact tail_ok hc _ _ _ _ _ 0 (by simp) _ (by omega)
        · rw [if_neg hg]
          have hcn := countN_paths n' i' k' t'
          exact loop_ok hc hn hi (PL t' k' n' i') (fun x hx => PL_fin _ _ _ hx) (by omega) (PL t' k' n' i').length 0 299998 (by omega) (by omega)
      · rw [if_neg h4]
        exact tail_ok hc _ _ _ _ _ 0 (by simp) _ (by omega)
    by_cases h0 : (lstAns n i k t).2 = 0
    · rw [if_pos h0]
      have h4 : cd4 n i k t = true := by
        unfold lstAns at h0
        by_cases h4 : cd4 n i k t = true
        · exact h4
        · rw [if_neg h4] at h0; exact absurd h0 (by decide)
      have hcp : ∀ b, cntAns b n i k t = (countN b n.toNat i.toNat k.toNat t.toNat, 0) := by intro b; unfold cntAns; rw [if_pos h4]
      rw [hcp, hcp, if_pos rfl, if_pos rfl]
      have hlen : countN true n.toNat i.toNat k.toNat t.toNat = ((lstAns n i k t).1.length : Int) := by
        unfold lstAns at h0 ⊢
        rw [if_pos h4] at h0 ⊢
        by_cases hg : countN true n.toNat i.toNat k.toNat t.toNat > 400
        · rw [if_pos hg] at h0; exact absurd h0 (by decide)
        · rw [if_neg hg, countN_paths, List.length_map]
      dsimp only
      rw [if_pos hlen]
      exact hj1 _ (decide_eq_false (by have := countN_level n.toNat i.toNat k.toNat t.toNat; omega))
    · rw [if_neg h0]
      exact hj1 _ rfl
theorem PathCounts_pure : laws_FnPathCounts.Pure := by
  intro c hm hy hw
  refine ⟨300000, Pure_ok fun hl => ⟨hl, fun x hx => ?_⟩⟩
  have := hw x hx
  simp [Lit.wf] at this
  exact this
end Go.Proofs.Ytlodpobegdbhaaa.Pl

/- The pure statement of the law, for the row's text. -/
namespace Go.Proofs.Ytlodpobegdbhaaa.Pure
open Go.RowKit Go.Proofs.Ytlodpobegdbhaaa.X Go.Proofs.YtlodpobegdbhaaaW.PrintWords Go.Proofs.YtlodpobegdbhaaaW.PrintLast
theorem FnPathCounts : laws_FnPathCounts.Pure := Go.Proofs.Ytlodpobegdbhaaa.Pl.PathCounts_pure
end Go.Proofs.Ytlodpobegdbhaaa.Pure

/- Words for the printed texts of this claim, pruned to those it names; Lean checks them. -/
namespace Go.Proofs.YtlodpobegdbhaaaW.PrintWords
open Go.ChangeShapes Go.WideShapes
theorem sized_ints {H : Type} {enc : TypeId × Value → H} {P : Program} {W : World} {base : Nat} {spare : Nat → Bool} {held : Bool} {t e : TypeId} {k : IntKind} {a : Option Addr} {len cap : Nat} {d : DataW H} {ps : List MemPlace} {ts : List TypeId} {ds : List (DataW H)} {j : Nat}
    (hsz : (DataW.weightsEach P ts ds).all (· ≤ reachBytes) = true) (ht : ts[j]? = some t) (hd : ds[j]? = some d) (hu : P.underlying t = some (.slice e)) (he : P.underlying e = some (.int k)) (hc : P.cellsOf e = 1) {B : Nat} (hB : P.bytesOf e = B)
    (h : DataW.Trod enc P W base spare held t (.slice a len cap) d ps) : len * B ≤ 140737488351232 := by
  obtain ⟨fuel, hf⟩ := h
  rcases open_ints hu he hc hf with ⟨hcs, _⟩ | ⟨x, l, c, zs, hcs, _, hl, _, hz, hx, _, _⟩
  · simp [Value.cells] at hcs
    obtain ⟨rfl, rfl, rfl⟩ := hcs
    simp
  · simp [Value.cells] at hcs
    obtain ⟨rfl, rfl, rfl⟩ := hcs
    obtain ⟨hx, _⟩ := Prod.mk.inj hx
    subst hx
    have z := sized_slice hsz ht hd hu
    rw [hB] at z
    have hl2 : len ≤ zs.length := by
      rw [hz]
      split
      · exact hl
      · exact Nat.le_refl _
    have h1 : (lits (H := H) k (zs.take len)).length + (lits (H := H) k (zs.drop len)).length = zs.length := by
      simp [lits]
      omega
    rw [h1] at z
    exact Nat.le_trans (Nat.mul_le_mul_right _ hl2) z
end Go.Proofs.YtlodpobegdbhaaaW.PrintWords
