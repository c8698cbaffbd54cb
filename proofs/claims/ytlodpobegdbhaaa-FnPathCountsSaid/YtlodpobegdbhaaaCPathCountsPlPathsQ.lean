/- Part of the proof of the law FnPathCounts. -/
import Derived.Test.YtlodpobegdbhaaaCPathCountsMCount
import Derived.Test.YtlodpobegdbhaaaCPathCountsMPath
import Derived.Test.YtlodpobegdbhaaaCPathCountsPlBase
import Derived.Test.YtlodpobegdbhaaaCPathCountsX22
import Derived.Test.YtlodpobegdbhaaaCPathCountsX24
import Derived.Test.YtlodpobegdbhaaaCPathCountsX25
import Derived.Test.YtlodpobegdbhaaaCPathCountsX1
import Derived.Test.YtlodpobegdbhaaaCPathCountsX21
import Derived.Test.YtlodpobegdbhaaaCPathCountsX26
import Derived.Test.YtlodpobegdbhaaaCPathCountsX27
import Derived.Test.YtlodpobegdbhaaaCPathCountsX28
import Derived.Test.YtlodpobegdbhaaaCPathCountsX31
import Derived.Test.YtlodpobegdbhaaaCPathCountsX32
import Derived.Test.YtlodpobegdbhaaaCPathCountsX2
import Derived.Test.YtlodpobegdbhaaaCPathCountsX29
import Derived.Test.YtlodpobegdbhaaaCPathCountsX3
import Derived.Test.YtlodpobegdbhaaaCPathCountsX4
import Derived.Test.YtlodpobegdbhaaaCPathCountsX23
namespace Go.Proofs.Ytlodpobegdbhaaa.Pl
open Go.RowKit Go.Proofs.YtlodpobegdbhaaaW.PrintWords Go.Proofs.YtlodpobegdbhaaaW.PrintMore Go.Proofs.Ytlodpobegdbhaaa.X
set_option linter.unusedVariables false
set_option linter.unusedSimpArgs false
set_option maxRecDepth 20000
theorem vec_congr {h : Nat} {f g : Nat → Int} (e : ∀ x, x ≤ h → f x = g x) : vec h f = vec h g := by
  apply List.ext_getElem
  · simp [vec]
  · intro i h1 h2
    rw [vec_get, vec_get]
    rw [vec_length] at h1
    exact e i (by omega)
theorem vec_rd {h i : Nat} {f : Nat → Int} (hi : i ≤ h) : rd (vec h f) (i : Int) = f i := by
  rw [rd_nat (by rw [vec_length]; omega), vec_get]
def add1 (g : Nat → Int) (j : Nat) (y : Int) : Nat → Int := fun x => g x + (if x = j then y else 0)
theorem add1_bound {g : Nat → Int} {j : Nat} {y B C : Int} (h0 : ∀ x, 0 ≤ g x) (hB : ∀ x, g x ≤ B) (hy0 : 0 ≤ y) (hy : y ≤ C) (x : Nat) : 0 ≤ add1 g j y x ∧ add1 g j y x ≤ B + C := by
  have a := h0 x
  have b := hB x
  unfold add1
  split <;> omega
theorem vec_add {h j : Nat} {g : Nat → Int} {y : Int} (hj : j ≤ h) (h0 : 0 ≤ g j) (hB : g j ≤ 4000000000000) (hy0 : 0 ≤ y) (hy : y ≤ 300000000000) : (vec h g).set ((j : Int)).toNat (wrap64 (rd (vec h g) (j : Int) + y)) = vec h (add1 g j y) := by
  rw [vec_rd hj, wrap_id (by omega) (by omega), show ((j : Int)).toNat = j from rfl, vec_set]
  exact vec_congr fun x _ => by
    unfold add1
    by_cases e : x = j
    · rw [if_pos e, if_pos e, e]
    · rw [if_neg e, if_neg e]; omega
theorem part_bound {lv : Bool} {h m : Nat} {f : Nat → Int} (h0 : ∀ x, 0 ≤ f x) (hB : ∀ x, f x ≤ 300000000000) (x : Nat) : 0 ≤ part lv h f m x ∧ part lv h f m x ≤ 900000000000 := by
  have a := h0 x
  have b := h0 (x + 1)
  have c := h0 (x - 1)
  have d := hB x
  have e := hB (x + 1)
  have g := hB (x - 1)
  unfold part
  repeat' split
  all_goals omega
def adds (lv : Bool) (h : Nat) (g : Nat → Int) (m : Nat) (y : Int) : Nat → Int :=
  let g1 := if lv = true then add1 g m y else g
  let g2 := if 0 < m then add1 g1 (m - 1) y else g1
  if m < h then add1 g2 (m + 1) y else g2
theorem adds_set3 (lv : Bool) {h m : Nat} (g : Nat → Int) (y : Int) : vec h (adds lv h g m y) = vec h (set3 lv h g m y) := by
  refine vec_congr fun x hx => ?_
  unfold adds set3
  cases lv
  all_goals (by_cases h1 : 0 < m <;> by_cases h2 : m < h <;> simp only [h1, h2, if_true, if_false, add1, Bool.false_eq_true, false_and, true_and])
  all_goals (repeat' split)
  all_goals omega
theorem count_l1 {lv : Bool} {h : Nat} {f : Nat → Int} (hh : h ≤ 100) (h0 : ∀ x, 0 ≤ f x) (hB : ∀ x, f x ≤ 300000000000) (k n i : Int) : ∀ (d m K F : Nat), m + d = h + 1 → F = K + 2 * d + 1 →
    impl_countPaths.l1 F k h lv (vec h (part lv h f m)) n i (vec h f) ((h + 1 : Nat) : Int) m = impl_countPaths.l0 K k h lv (vec h (T lv h f)) n (wrap64 (i + 1))
  | 0, m, K, F, hm, hF => by
    subst hF
    obtain rfl : m = h + 1 := by omega
    simp only [impl_countPaths.l1]
    rw [if_neg (by omega), part_all]
  | d + 1, m, K, F, hm, hF => by
    obtain ⟨F, rfl⟩ : ∃ q, F = q + 2 := ⟨F - 2, by omega⟩
    have ih := count_l1 (lv := lv) hh h0 hB k n i d (m + 1) K F (by omega) (by omega)
    have a := h0 m
    have b := hB m
    have p0 := part_bound (lv := lv) (h := h) (m := m) h0 hB
    rw [part_succ, ← adds_set3] at ih
    simp only [impl_countPaths.l1]
    rw [if_pos (by omega), if_pos (by omega), if_pos (by rw [vec_length]; omega), vec_rd (f := f) (show m ≤ h by omega)]
    have g1b : ∀ x, 0 ≤ (if lv = true then add1 (part lv h f m) m (f m) else part lv h f m) x ∧ (if lv = true then add1 (part lv h f m) m (f m) else part lv h f m) x ≤ 1200000000000 := fun x => by
      split
      · have := add1_bound (j := m) (fun x => (p0 x).1) (fun x => (p0 x).2) a b x; omega
      · have := p0 x; omega
    have e1 : (if lv = true then (if (m : Int) < ((vec h (part lv h f m)).length : Int) then (impl_countPaths.j3 (F + 1) k h lv ((vec h (part lv h f m)).set ((m : Int)).toNat (wrap64 (rd (vec h (part lv h f m)) m + f m))) m (f m) n i (vec h f) ((h + 1 : Nat) : Int) m) else none) else (impl_countPaths.j3 (F + 1) k h lv (vec h (part lv h f m)) m (f m) n i (vec h f) ((h + 1 : Nat) : Int) m)) = impl_countPaths.j3 (F + 1) k h lv (vec h (if lv = true then add1 (part lv h f m) m (f m) else part lv h f m)) m (f m) n i (vec h f) ((h + 1 : Nat) : Int) m := by
      cases lv
      · rfl
      · rw [if_pos rfl, if_pos rfl, if_pos (by rw [vec_length]; omega), vec_add (by omega) (p0 m).1 (by have := (p0 m).2; omega) a b]
    rw [e1]
    unfold adds at ih
    simp only at ih
    generalize (if lv = true then add1 (part lv h f m) m (f m) else part lv h f m) = g1 at g1b ih ⊢
    simp only [impl_countPaths.j3]
    by_cases hm0 : 0 < m
    · have g2b : ∀ x, 0 ≤ add1 g1 (m - 1) (f m) x ∧ add1 g1 (m - 1) (f m) x ≤ 1500000000000 := fun x => by
        have := add1_bound (j := m - 1) (fun x => (g1b x).1) (fun x => (g1b x).2) a b x; omega
      rw [if_pos hm0] at ih
      rw [if_pos (by omega), wrap_id (x := (m : Int) - 1) (by omega) (by omega), if_pos (by omega), if_pos (by rw [vec_length]; omega), Option.bind_some, show ((m : Int) - 1) = ((m - 1 : Nat) : Int) by omega, vec_add (by omega) (g1b (m - 1)).1 (by have := (g1b (m - 1)).2; omega) a b]
      by_cases hmh : m < h
      · rw [if_pos hmh] at ih
        rw [if_pos (by omega), wrap_id (x := (m : Int) + 1) (by omega) (by omega), if_pos (by omega), if_pos (by rw [vec_length]; omega), show ((m : Int) + 1) = ((m + 1 : Nat) : Int) by omega, vec_add (by omega) (g2b (m + 1)).1 (by have := (g2b (m + 1)).2; omega) a b]
        exact ih
      · rw [if_neg hmh] at ih
        rw [if_neg (by omega), wrap_id (x := (m : Int) + 1) (by omega) (by omega), show ((m : Int) + 1) = ((m + 1 : Nat) : Int) by omega]
        exact ih
    · rw [if_neg hm0] at ih
      rw [if_neg (by omega)]
      by_cases hmh : m < h
      · rw [if_pos hmh] at ih
        rw [if_pos (by omega), wrap_id (x := (m : Int) + 1) (by omega) (by omega), if_pos (by omega), if_pos (by rw [vec_length]; omega), show ((m : Int) + 1) = ((m + 1 : Nat) : Int) by omega, vec_add (by omega) (g1b (m + 1)).1 (by have := (g1b (m + 1)).2; omega) a b]
        exact ih
      · rw [if_neg hmh] at ih
        rw [if_neg (by omega), wrap_id (x := (m : Int) + 1) (by omega) (by omega), show ((m : Int) + 1) = ((m + 1 : Nat) : Int) by omega]
        exact ih
theorem count_l0 {lv : Bool} {h k : Nat} (hh : h ≤ 100) (hk : k ≤ h) : ∀ (d i K : Nat) (f : Nat → Int) (B : Int), (∀ x, 0 ≤ f x) → (∀ x, f x ≤ B) → 3 ^ d * B ≤ 300000000000 → 0 ≤ B → i + d ≤ 1000 → d * 300 + 300 ≤ K →
    impl_countPaths.l0 K k h lv (vec h f) ((i + d : Nat) : Int) i = some (Tn lv h d f k)
  | 0, i, K, f, B, h0, hB, hp, hB0, hi, hK => by
    obtain ⟨K, rfl⟩ : ∃ q, K = q + 1 := ⟨K - 1, by omega⟩
    simp only [impl_countPaths.l0]
    rw [if_neg (by omega), if_pos (by omega), if_pos (by rw [vec_length]; omega), vec_rd hk]
    rfl
  | d + 1, i, K, f, B, h0, hB, hp, hB0, hi, hK => by
    obtain ⟨K, rfl⟩ : ∃ q, K = q + 2 * (h + 1) + 1 + 1 := ⟨K - 2 * (h + 1) - 2, by omega⟩
    have h3 : 1 ≤ (3 : Int) ^ d := by
      have : 0 < (3 : Int) ^ d := Int.pow_pos (by decide)
      omega
    have hpp : 3 ^ d * (3 * B) ≤ 300000000000 := by rw [Int.pow_succ, Int.mul_assoc] at hp; exact hp
    have hB3 : 3 * B ≤ 300000000000 := Int.le_trans (by have := Int.mul_le_mul_of_nonneg_right h3 (show 0 ≤ 3 * B by omega); omega) hpp
    simp only [impl_countPaths.l0]
    rw [if_pos (by omega), wrap_id (x := (h : Int) + 1) (by omega) (by omega), if_pos (by omega), if_pos (by omega)]
    have h1 := count_l1 (lv := lv) hh h0 (fun x => by have := hB x; omega) k ((i + (d + 1) : Nat) : Int) i (h + 1) 0 K (K + 2 * (h + 1) + 1) (by omega) rfl
    rw [part_zero] at h1
    rw [show ((h : Int) + 1).toNat = h + 1 by omega, vec_length]
    rw [show ((0 : Nat) : Int) = 0 from rfl] at h1
    rw [h1, wrap_id (by omega) (by omega), show ((i : Int) + 1) = ((i + 1 : Nat) : Int) by omega, show ((i + (d + 1) : Nat) : Int) = ((i + 1 + d : Nat) : Int) by omega]
    exact count_l0 hh hk d (i + 1) K (T lv h f) (3 * B) (fun x => (T_bound h0 hB x).1) (fun x => (T_bound h0 hB x).2) hpp (by omega) (by omega) (by omega)
def countN (lv : Bool) (n i k h : Nat) : Int := if i ≤ h ∧ k ≤ h then Tn lv h n (e_ i) k else 0
theorem unit_eq {h i : Nat} (hi : i ≤ h) : (List.replicate (h + 1) (0 : Int)).set i 1 = vec h (e_ i) := by
  rw [← part_zero true h (fun _ => 0), vec_set]
  refine vec_congr fun x _ => ?_
  unfold part e_
  repeat' split
  all_goals omega
theorem pow24 {n : Nat} (hn : n ≤ 24) : (3 : Int) ^ n * 1 ≤ 300000000000 := by
  have : (3 : Int) ^ n ≤ 3 ^ 24 := by
    have := Nat.pow_le_pow_right (show 0 < 3 by decide) hn
    exact_mod_cast this
  have h2 : (3 : Int) ^ 24 = 282429536481 := by decide
  omega
theorem countPaths_eq (lv : Bool) (n i k h : Nat) (hn : n ≤ 24) (hh : h ≤ 100) (hi : i ≤ 100) (hk : k ≤ 100) (K : Nat) (hK : 10000 ≤ K) : impl_countPaths.f K n i k h lv = some (countN lv n i k h) := by
  obtain ⟨K, rfl⟩ : ∃ q, K = q + 1 := ⟨K - 1, by omega⟩
  unfold impl_countPaths.f countN
  by_cases h1 : i ≤ h
  · rw [if_neg (by omega)]
    simp only [impl_countPaths.j0]
    by_cases h2 : k ≤ h
    · rw [if_neg (by simp; omega), wrap_id (x := (h : Int) + 1) (by omega) (by omega), if_pos (by omega), if_pos (by omega), Option.bind_some, show ((h : Int) + 1).toNat = h + 1 by omega, if_pos (by omega), if_pos (by simp; omega), show ((i : Int)).toNat = i from rfl, unit_eq h1, if_pos ⟨h1, h2⟩]
      have := count_l0 (lv := lv) hh h2 n 0 K (e_ i) 1 (fun x => (e_bound i x).1) (fun x => (e_bound i x).2) (pow24 hn) (by omega) (by omega) (by omega)
      simpa using this
    · rw [if_pos (by simp; omega), if_neg (by omega)]
  · rw [if_pos (by omega), if_neg (by omega)]
    simp [impl_countPaths.j0]
theorem Counts_l1 {lv : Bool} {h : Nat} {f : Nat → Int} (hh : h ≤ 100) (h0 : ∀ x, 0 ≤ f x) (hB : ∀ x, f x ≤ 300000000000) (n : Int) : ∀ (d m K F : Nat), m + d = h + 1 → F = K + 2 * d + 1 →
    spec_l09Counts.l1 F n h (!lv) (vec h f) (vec h (part lv h f m)) m = spec_l09Counts.l0 K (wrap64 (n - 1)) h (!lv) (vec h (T lv h f))
  | 0, m, K, F, hm, hF => by
    subst hF
    obtain rfl : m = h + 1 := by omega
    simp only [spec_l09Counts.l1]
    rw [if_neg (by omega), part_all]
  | d + 1, m, K, F, hm, hF => by
    obtain ⟨F, rfl⟩ : ∃ q, F = q + 2 := ⟨F - 2, by omega⟩
    have ih := Counts_l1 (lv := lv) hh h0 hB n d (m + 1) K F (by omega) (by omega)
    have a := h0 m
    have b := hB m
    have p0 := part_bound (lv := lv) (h := h) (m := m) h0 hB
    rw [part_succ, ← adds_set3] at ih
    simp only [spec_l09Counts.l1]
    rw [if_pos (by omega)]
    have g1b : ∀ x, 0 ≤ (if lv = true then add1 (part lv h f m) m (f m) else part lv h f m) x ∧ (if lv = true then add1 (part lv h f m) m (f m) else part lv h f m) x ≤ 1200000000000 := fun x => by
      split
      · have := add1_bound (j := m) (fun x => (p0 x).1) (fun x => (p0 x).2) a b x; omega
      · have := p0 x; omega
    have e1 : (if (!lv) = true then (spec_l09Counts.j3 (F + 1) n h (!lv) (vec h f) (vec h (part lv h f m)) m) else (if 0 ≤ (m : Int) then (if (m : Int) < ((vec h (part lv h f m)).length : Int) then (if (m : Int) < ((vec h f).length : Int) then (spec_l09Counts.j3 (F + 1) n h (!lv) (vec h f) ((vec h (part lv h f m)).set ((m : Int)).toNat (wrap64 (rd (vec h (part lv h f m)) m + rd (vec h f) m))) m) else none) else none) else none)) = spec_l09Counts.j3 (F + 1) n h (!lv) (vec h f) (vec h (if lv = true then add1 (part lv h f m) m (f m) else part lv h f m)) m := by
      cases lv
      · rfl
      · rw [if_neg (by decide), if_pos (by omega), if_pos (by rw [vec_length]; omega), if_pos (by rw [vec_length]; omega), vec_rd (f := f) (show m ≤ h by omega), vec_add (by omega) (p0 m).1 (by have := (p0 m).2; omega) a b, if_pos rfl]
    rw [e1]
    unfold adds at ih
    simp only at ih
    generalize (if lv = true then add1 (part lv h f m) m (f m) else part lv h f m) = g1 at g1b ih ⊢
    simp only [spec_l09Counts.j3]
    by_cases hm0 : 0 < m
    · have g2b : ∀ x, 0 ≤ add1 g1 (m - 1) (f m) x ∧ add1 g1 (m - 1) (f m) x ≤ 1500000000000 := fun x => by
        have := add1_bound (j := m - 1) (fun x => (g1b x).1) (fun x => (g1b x).2) a b x; omega
      rw [if_pos hm0] at ih
      rw [if_pos (by omega), wrap_id (x := (m : Int) - 1) (by omega) (by omega), if_pos (by omega), if_pos (by rw [vec_length]; omega), if_pos (by omega), if_pos (by rw [vec_length]; omega), Option.bind_some, vec_rd (f := f) (show m ≤ h by omega), show ((m : Int) - 1) = ((m - 1 : Nat) : Int) by omega, vec_add (by omega) (g1b (m - 1)).1 (by have := (g1b (m - 1)).2; omega) a b]
      by_cases hmh : m < h
      · rw [if_pos hmh] at ih
        rw [if_pos (by omega), wrap_id (x := (m : Int) + 1) (by omega) (by omega), if_pos (by omega), if_pos (by rw [vec_length]; omega), show ((m : Int) + 1) = ((m + 1 : Nat) : Int) by omega, vec_add (by omega) (g2b (m + 1)).1 (by have := (g2b (m + 1)).2; omega) a b]
        exact ih
      · rw [if_neg hmh] at ih
        rw [if_neg (by omega), wrap_id (x := (m : Int) + 1) (by omega) (by omega), show ((m : Int) + 1) = ((m + 1 : Nat) : Int) by omega]
        exact ih
    · rw [if_neg hm0] at ih
      rw [if_neg (by omega)]
      by_cases hmh : m < h
      · rw [if_pos hmh] at ih
        rw [if_pos (by omega), wrap_id (x := (m : Int) + 1) (by omega) (by omega), if_pos (by omega), if_pos (by rw [vec_length]; omega), if_pos (by omega), if_pos (by rw [vec_length]; omega), vec_rd (f := f) (show m ≤ h by omega), show ((m : Int) + 1) = ((m + 1 : Nat) : Int) by omega, vec_add (by omega) (g1b (m + 1)).1 (by have := (g1b (m + 1)).2; omega) a b]
        exact ih
      · rw [if_neg hmh] at ih
        rw [if_neg (by omega), wrap_id (x := (m : Int) + 1) (by omega) (by omega), show ((m : Int) + 1) = ((m + 1 : Nat) : Int) by omega]
        exact ih
theorem Counts_l0 {lv : Bool} {h : Nat} (hh : h ≤ 100) : ∀ (d K : Nat) (f : Nat → Int) (B : Int), (∀ x, 0 ≤ f x) → (∀ x, f x ≤ B) → 3 ^ d * B ≤ 300000000000 → 0 ≤ B → d ≤ 1000 → d * 300 + 300 ≤ K →
    spec_l09Counts.l0 K (d : Int) h (!lv) (vec h f) = some (vec h (Tn lv h d f))
  | 0, K, f, B, h0, hB, hp, hB0, hd, hK => by
    obtain ⟨K, rfl⟩ : ∃ q, K = q + 1 := ⟨K - 1, by omega⟩
    simp only [spec_l09Counts.l0]
    rw [if_neg (by omega)]
    rfl
  | d + 1, K, f, B, h0, hB, hp, hB0, hd, hK => by
    obtain ⟨K, rfl⟩ : ∃ q, K = q + 2 * (h + 1) + 1 + 1 := ⟨K - 2 * (h + 1) - 2, by omega⟩
    have h3 : 1 ≤ (3 : Int) ^ d := by
      have : 0 < (3 : Int) ^ d := Int.pow_pos (by decide)
      omega
    have hpp : 3 ^ d * (3 * B) ≤ 300000000000 := by rw [Int.pow_succ, Int.mul_assoc] at hp; exact hp
    have hB3 : 3 * B ≤ 300000000000 := Int.le_trans (by have := Int.mul_le_mul_of_nonneg_right h3 (show 0 ≤ 3 * B by omega); omega) hpp
    simp only [spec_l09Counts.l0]
    rw [if_pos (by omega), wrap_id (x := (h : Int) + 1) (by omega) (by omega), if_pos (by omega), if_pos (by omega)]
    have h1 := Counts_l1 (lv := lv) hh h0 (fun x => by have := hB x; omega) ((d + 1 : Nat) : Int) (h + 1) 0 K (K + 2 * (h + 1) + 1) (by omega) rfl
    rw [part_zero] at h1
    rw [show ((h : Int) + 1).toNat = h + 1 by omega]
    rw [show ((0 : Nat) : Int) = 0 from rfl] at h1
    rw [h1, wrap_id (by omega) (by omega), show (((d + 1 : Nat) : Int) - 1) = (d : Int) by omega]
    exact Counts_l0 hh d K (T lv h f) (3 * B) (fun x => (T_bound h0 hB x).1) (fun x => (T_bound h0 hB x).2) hpp (by omega) (by omega) (by omega)
theorem l09Count_eq (lv : Bool) (n i k h : Nat) (hn : n ≤ 24) (hh : h ≤ 100) (hi : i ≤ 100) (hk : k ≤ 100) (K : Nat) (hK : 10000 ≤ K) : spec_l09Count.f K n i k h (!lv) = some (countN lv n i k h) := by
  obtain ⟨K, rfl⟩ : ∃ q, K = q + 1 := ⟨K - 1, by omega⟩
  unfold spec_l09Count.f countN
  by_cases h2 : k ≤ h
  · rw [if_neg (by omega)]
    unfold spec_l09Counts.f
    rw [wrap_id (x := (h : Int) + 1) (by omega) (by omega), if_pos (by omega), if_pos (by omega), Option.bind_some, show ((h : Int) + 1).toNat = h + 1 by omega]
    by_cases h1 : i ≤ h
    · rw [if_pos (by omega), if_pos (by omega), if_pos (by simp; omega), show ((i : Int)).toNat = i from rfl, unit_eq h1, if_pos ⟨h1, h2⟩]
      simp only [spec_l09Counts.j0]
      rw [Counts_l0 hh n K (e_ i) 1 (fun x => (e_bound i x).1) (fun x => (e_bound i x).2) (pow24 hn) (by omega) (by omega) (by omega), Option.bind_some, if_pos (by omega), if_pos (by rw [vec_length]; omega), vec_rd h2]
    · rw [if_neg (by omega), if_neg (by omega)]
      simp only [spec_l09Counts.j0]
      have hz : List.replicate (h + 1) (0 : Int) = vec h (fun _ => 0) := by
        rw [← part_zero true h (fun _ => 0)]
        refine vec_congr fun x _ => ?_
        unfold part
        repeat' split
        all_goals omega
      rw [hz, Counts_l0 hh n K (fun _ => 0) 1 (fun _ => Int.le_refl 0) (fun _ => by decide) (pow24 hn) (by omega) (by omega) (by omega), Option.bind_some, if_pos (by omega), if_pos (by rw [vec_length]; omega), vec_rd h2, Tn_zero]
  · rw [if_pos (by omega), if_neg (by omega)]
theorem countN_level (n i k h : Nat) : countN false n i k h ≤ countN true n i k h := by
  unfold countN
  split
  · exact Tn_le n (fun x => (e_bound i x).1) (fun _ => Int.le_refl _) k
  · exact Int.le_refl _
theorem countN_paths (n i k h : Nat) : countN true n i k h = ((PL h k n i).length : Int) := by
  unfold countN
  by_cases hc : i ≤ h ∧ k ≤ h
  · rw [if_pos hc, PL_count hc.2 n i hc.1]
  · rw [if_neg hc, PL_above n i hc]; rfl
theorem countN_top (lv : Bool) (n k : Nat) (hn : n ≤ 24) (hk : k ≤ 24) : countN lv n 0 k 48 = countN lv n 0 k 24 := by
  unfold countN
  rw [if_pos ⟨by omega, by omega⟩, if_pos ⟨by omega, by omega⟩, Tn_high (h := 48) (h' := 24) n 0 (fun x hx => by unfold e_; rw [if_neg (by omega)]) (by omega) (by omega)]
end Go.Proofs.Ytlodpobegdbhaaa.Pl

/- Part of the proof of the law FnPathCounts. -/
namespace Go.Proofs.Ytlodpobegdbhaaa.Pl
open Go.RowKit Go.Proofs.YtlodpobegdbhaaaW.PrintWords Go.Proofs.YtlodpobegdbhaaaW.PrintMore Go.Proofs.Ytlodpobegdbhaaa.X
set_option linter.unusedVariables false
set_option linter.unusedSimpArgs false
theorem bits_low (x : Int) : 0 ≤ Go.bits .and .u64 x 16777215 ∧ Go.bits .and .u64 x 16777215 ≤ 16777215 := by
  have h : (BitVec.ofInt IntKind.u64.bits x &&& BitVec.ofInt IntKind.u64.bits 16777215).toNat ≤ 16777215 := by
    rw [BitVec.toNat_and]
    exact Nat.le_trans Nat.and_le_right (by decide)
  have e : Go.bits .and .u64 x 16777215 = IntKind.u64.wrap ((BitVec.ofInt IntKind.u64.bits x &&& BitVec.ofInt IntKind.u64.bits 16777215).toNat : Int) := rfl
  rw [e]
  generalize (BitVec.ofInt IntKind.u64.bits x &&& BitVec.ofInt IntKind.u64.bits 16777215).toNat = n at h
  have : IntKind.u64.wrap (n : Int) = (n : Int) % 18446744073709551616 := rfl
  rw [this]
  omega
def Code_ (l : List Int) : Prop := l.length ≤ 4096 ∧ ∀ x ∈ l, 0 ≤ x ∧ x ≤ 255
theorem Code_rd {l : List Int} (h : Code_ l) (i : Int) (h0 : 0 ≤ i) (h1 : i < (l.length : Int)) : 0 ≤ rd l i ∧ rd l i ≤ 255 := by
  obtain ⟨j, rfl⟩ : ∃ j : Nat, i = j := ⟨i.toNat, by omega⟩
  rw [rd_nat (by omega)]
  exact h.2 _ (List.getElem_mem _)
theorem tmod_range {x n : Int} (hx : 0 ≤ x) (hn : 1 ≤ n) : 0 ≤ Int.tmod x n ∧ Int.tmod x n < n := ⟨Int.tmod_nonneg _ hx, Int.tmod_lt_of_pos _ (by omega)⟩
theorem Next_ok {l : List Int} (h : Code_ l) {at_ : Int} (ha : 0 ≤ at_) (hs n : Int) : ∃ x a' h', spec_l01Next.f l at_ hs n = some (x, a', h') ∧ 0 ≤ a' ∧ (1 ≤ n → 0 ≤ x ∧ x < n) ∧ (n < 1 → x = 0) := by
  have hl := h.1
  unfold spec_l01Next.f
  by_cases h1 : n < 1
  · rw [if_pos h1]
    exact ⟨0, at_, hs, rfl, ha, fun h2 => by omega, fun _ => rfl⟩
  · rw [if_neg h1]
    have hb := bits_low ((IntKind.u64.wrap ((IntKind.u64.wrap (hs * 6364136223846793005)) + 1442695040888963407)) / 8589934592)
    generalize Go.bits .and .u64 ((IntKind.u64.wrap ((IntKind.u64.wrap (hs * 6364136223846793005)) + 1442695040888963407)) / 8589934592) 16777215 = b at hb
    by_cases h2 : at_ < (l.length : Int)
    · have hr := Code_rd h at_ ha h2
      rw [if_pos h2, if_pos ha, if_neg (by omega), wrap_id (x := b) (by omega) (by omega), wrap_id (x := rd l at_) (by omega) (by omega), wrap_id (x := b + rd l at_) (by omega) (by omega), wrap_id (x := at_ + 1) (by omega) (by omega)]
      exact ⟨_, _, _, rfl, by omega, fun h3 => tmod_range (by omega) h3, fun h3 => by omega⟩
    · rw [if_neg h2, if_neg (by omega), wrap_id (x := b) (by omega) (by omega)]
      exact ⟨_, _, _, rfl, ha, fun h3 => tmod_range (by omega) h3, fun h3 => by omega⟩
theorem Pick_ok {l : List Int} (h : Code_ l) {at_ : Int} (ha : 0 ≤ at_) (hs : Int) (c : List Int) (hc : 1 ≤ c.length) : ∃ x a' h', spec_l01Pick.f l at_ hs c = some (x, a', h') ∧ 0 ≤ a' ∧ x ∈ c := by
  obtain ⟨x, a', h', e, h0, h1, _⟩ := Next_ok h ha hs (c.length : Int)
  have := h1 (by omega)
  unfold spec_l01Pick.f
  rw [e, Option.bind_some]
  simp only
  rw [if_pos this.1, if_pos this.2]
  refine ⟨_, _, _, rfl, h0, ?_⟩
  obtain ⟨j, rfl⟩ : ∃ j : Nat, x = j := ⟨x.toNat, by omega⟩
  rw [rd_nat (by omega)]
  exact List.getElem_mem _
theorem Near_ok {l : List Int} (h : Code_ l) {at_ : Int} (ha : 0 ≤ at_) (hs m : Int) : ∃ x a' h', spec_l01Near.f l at_ hs m = some (x, a', h') ∧ 0 ≤ a' := by
  obtain ⟨x, a', h', e, h0, h1, _⟩ := Next_ok h ha hs 14
  unfold spec_l01Near.f
  rw [e, Option.bind_some]
  simp only
  split
  · obtain ⟨y, a2, h2, e2, h3, _⟩ := Pick_ok h h0 h' [(-1), wrap64 (m + 1), 1099511627776, (-4611686018427387904)] (by simp)
    rw [e2, Option.bind_some]
    exact ⟨_, _, _, rfl, h3⟩
  · obtain ⟨y, a2, h2, e2, h3, _⟩ := Next_ok h h0 h' (wrap64 (m + 1))
    rw [e2, Option.bind_some]
    exact ⟨_, _, _, rfl, h3⟩
theorem From_l0 {l : List Int} (h : Code_ l) : ∀ (d i K : Nat) (hs : Int), i + d = l.length → d < K → ∃ h', spec_l01From.l0 K l i l 0 hs = some (l, 0, h')
  | 0, i, K, hs, hd, hK => by
    obtain ⟨K, rfl⟩ : ∃ q, K = q + 1 := ⟨K - 1, by omega⟩
    simp only [spec_l01From.l0]
    rw [if_neg (by omega)]
    exact ⟨_, rfl⟩
  | d + 1, i, K, hs, hd, hK => by
    obtain ⟨K, rfl⟩ : ∃ q, K = q + 1 := ⟨K - 1, by omega⟩
    have := h.1
    simp only [spec_l01From.l0]
    rw [if_pos (by omega), if_pos (by omega), if_pos (by omega), wrap_id (x := (i : Int) + 1) (by omega) (by omega), show ((i : Int) + 1) = ((i + 1 : Nat) : Int) by omega]
    exact From_l0 h d (i + 1) K _ (by omega) (by omega)
theorem From_ok {l : List Int} (h : Code_ l) (K : Nat) (hK : 5000 ≤ K) : ∃ h', spec_l01From.f K l = some (l, 0, h') := by
  have := h.1
  exact From_l0 h l.length 0 K _ (by omega) (by omega)
theorem Numbers_ok {l : List Int} (h : Code_ l) {at_ : Int} (ha : 0 ≤ at_) (hs m : Int) : ∃ n i k t a' h', spec_l09Numbers.f l at_ hs m = some (n, i, k, t, a', h') := by
  unfold spec_l09Numbers.f
  obtain ⟨n, a1, h1, e1, g1⟩ := Near_ok h ha hs m
  rw [e1, Option.bind_some]
  obtain ⟨x2, a2, h2, e2, g2, _⟩ := Next_ok h g1 h1 5
  simp only
  rw [e2, Option.bind_some]
  obtain ⟨x3, a3, h3, e3, g3, _⟩ := Pick_ok h g2 h2 [0, 0, 1, x2] (by simp)
  simp only
  rw [e3, Option.bind_some]
  obtain ⟨x4, a4, h4, e4, g4, _⟩ := Next_ok h g3 h3 5
  simp only
  rw [e4, Option.bind_some]
  obtain ⟨x5, a5, h5, e5, g5, _⟩ := Pick_ok h g4 h4 [0, 0, 1, x4] (by simp)
  simp only
  rw [e5, Option.bind_some]
  obtain ⟨x6, a6, h6, e6, g6, _⟩ := Next_ok h g5 h5 30
  simp only
  rw [e6, Option.bind_some]
  simp only
  split
  · obtain ⟨x7, a7, h7, e7, g7, _⟩ := Pick_ok h g6 h6 [(-1), 25, 24] (by simp)
    rw [e7, Option.bind_some]
    obtain ⟨x8, a8, h8, e8, g8⟩ := Near_ok h g7 h7 24
    simp only
    rw [e8, Option.bind_some]
    obtain ⟨x9, a9, h9, e9, g9, _⟩ := Pick_ok h g8 h8 [1, 2, 3, 24, x8] (by simp)
    simp only
    rw [e9, Option.bind_some]
    exact ⟨_, _, _, _, _, _, rfl⟩
  · obtain ⟨x8, a8, h8, e8, g8⟩ := Near_ok h g6 h6 24
    rw [e8, Option.bind_some]
    obtain ⟨x9, a9, h9, e9, g9, _⟩ := Pick_ok h g8 h8 [1, 2, 3, 24, x8] (by simp)
    simp only
    rw [e9, Option.bind_some]
    exact ⟨_, _, _, _, _, _, rfl⟩
theorem DrawPathsOf_ok {l : List Int} (h : Code_ l) (K : Nat) (hK : 5000 ≤ K) : ∃ n i k t, spec_DrawPathsOf.f K l = some (n, i, k, t) := by
  obtain ⟨h1, e1⟩ := From_ok h K hK
  unfold spec_DrawPathsOf.f
  rw [e1, Option.bind_some]
  obtain ⟨x2, a2, h2, e2, g2, _⟩ := Pick_ok h (Int.le_refl 0) h1 [4, 6, 8] (by simp)
  simp only
  rw [e2, Option.bind_some]
  obtain ⟨n, i, k, t, a', h', e3⟩ := Numbers_ok h g2 h2 x2
  simp only
  rw [e3, Option.bind_some]
  exact ⟨_, _, _, _, rfl⟩
theorem DrawCountPaths_ok {l : List Int} (h : Code_ l) (K : Nat) (hK : 5000 ≤ K) : ∃ n i k t, spec_DrawCountPaths.f K l = some (n, i, k, t) := by
  obtain ⟨h1, e1⟩ := From_ok h K hK
  unfold spec_DrawCountPaths.f
  rw [e1, Option.bind_some]
  obtain ⟨x2, a2, h2, e2, g2, _⟩ := Pick_ok h (Int.le_refl 0) h1 [6, 12, 24] (by simp)
  simp only
  rw [e2, Option.bind_some]
  obtain ⟨n, i, k, t, a', h', e3⟩ := Numbers_ok h g2 h2 x2
  simp only
  rw [e3, Option.bind_some]
  exact ⟨_, _, _, _, rfl⟩
theorem DrawCountLevelPaths_ok {l : List Int} (h : Code_ l) (K : Nat) (hK : 5000 ≤ K) : ∃ n i k t, spec_DrawCountLevelPaths.f K l = some (n, i, k, t) := by
  obtain ⟨h1, e1⟩ := From_ok h K hK
  unfold spec_DrawCountLevelPaths.f
  rw [e1, Option.bind_some]
  obtain ⟨x2, a2, h2, e2, g2, _⟩ := Pick_ok h (Int.le_refl 0) h1 [6, 12, 24] (by simp)
  simp only
  rw [e2, Option.bind_some]
  obtain ⟨n, i, k, t, a', h', e3⟩ := Numbers_ok h g2 h2 x2
  simp only
  rw [e3, Option.bind_some]
  exact ⟨_, _, _, _, rfl⟩
theorem DrawBallotNumber_ok {l : List Int} (h : Code_ l) (K : Nat) (hK : 5000 ≤ K) : ∃ n k, spec_DrawBallotNumber.f K l = some (n, k) := by
  obtain ⟨h1, e1⟩ := From_ok h K hK
  unfold spec_DrawBallotNumber.f
  rw [e1, Option.bind_some]
  obtain ⟨x2, a2, h2, e2, g2⟩ := Near_ok h (Int.le_refl 0) h1 24
  simp only
  rw [e2, Option.bind_some]
  obtain ⟨x3, a3, h3, e3, g3, _⟩ := Pick_ok h g2 h2 [4, 24] (by simp)
  simp only
  rw [e3, Option.bind_some]
  obtain ⟨x4, a4, h4, e4, g4⟩ := Near_ok h g3 h3 x3
  simp only
  rw [e4, Option.bind_some]
  exact ⟨_, _, rfl⟩
def bs (l : List UInt8) : ByteArray := ⟨l.toArray⟩
theorem bs_size (l : List UInt8) : (bs l).size = l.length := by simp [bs, ByteArray.size]
theorem app_size (s t : ByteArray) : (s ++ t).size = s.size + t.size := ByteArray.size_append
theorem rdOf_le (c : List ByteArray) (n : Nat) (h : ∀ s ∈ c, s.size ≤ n) (i : Int) : (rdOf ByteArray.empty c i).size ≤ n := by
  unfold rdOf
  rw [List.getD_eq_getElem?_getD]
  cases hc : c[i.toNat]? with
  | none => simp
  | some s => exact h s (List.mem_of_getElem? hc)
theorem NoPath_ok {l : List Int} (h : Code_ l) {at_ : Int} (ha : 0 ≤ at_) (hs : Int) : ∃ s a' h', spec_l09NoPath.f l at_ hs = some (s, a', h') ∧ 0 ≤ a' ∧ s.size ≤ 60 := by
  obtain ⟨x, a', h', e, h0, h1, _⟩ := Next_ok h ha hs 4
  have := h1 (by omega)
  unfold spec_l09NoPath.f
  rw [Option.bind_some, e, Option.bind_some]
  simp only
  rw [if_pos this.1, if_pos (by simpa using this.2)]
  refine ⟨_, _, _, rfl, h0, rdOf_le _ 60 ?_ _⟩
  intro s hs
  simp only [List.mem_cons, List.not_mem_nil, or_false] at hs
  rcases hs with rfl | rfl | rfl | rfl <;> decide
theorem letter_size (i : Int) : (rdOf ByteArray.empty [(⟨#[85]⟩ : ByteArray), (⟨#[76]⟩ : ByteArray), (⟨#[68]⟩ : ByteArray)] i).size ≤ 1 := by
  refine rdOf_le _ 1 ?_ i
  intro s hs
  simp only [List.mem_cons, List.not_mem_nil, or_false] at hs
  rcases hs with rfl | rfl | rfl <;> decide
theorem DrawPath_l0 {l : List Int} (h : Code_ l) (b : Int) : ∀ (d K : Nat) (i : Int) (out : ByteArray) (at_ hs : Int), 0 ≤ at_ → d ≤ 1000 → 3 * d < K → out.size + d ≤ 1000 →
    ∃ s a' h', spec_l09DrawPath.l0 K i b out (d : Int) l at_ hs = some (s, a', h') ∧ 0 ≤ a' ∧ s.size ≤ 1060
  | 0, K, i, out, at_, hs, ha, hd, hK, ho => by
    obtain ⟨K, rfl⟩ : ∃ q, K = q + 1 := ⟨K - 1, by omega⟩
    obtain ⟨x, a1, h1, e1, g1, _⟩ := Next_ok h ha hs 30
    simp only [spec_l09DrawPath.l0]
    rw [if_neg (by omega), e1, Option.bind_some]
    simp only
    split
    · obtain ⟨s, a2, h2, e2, g2, hs2⟩ := NoPath_ok h g1 h1
      rw [e2, Option.bind_some]
      simp only
      rw [if_pos (by omega)]
      exact ⟨_, _, _, rfl, g2, by rw [app_size]; omega⟩
    · exact ⟨_, _, _, rfl, g1, by omega⟩
  | d + 1, K, i, out, at_, hs, ha, hd, hK, ho => by
    obtain ⟨K, rfl⟩ : ∃ q, K = q + 3 := ⟨K - 3, by omega⟩
    obtain ⟨x, a1, h1, e1, g1, h2, _⟩ := Next_ok h ha hs 3
    have hx := h2 (by omega)
    have hw : wrap64 (((d + 1 : Nat) : Int) - 1) = (d : Int) := by rw [wrap_id (by omega) (by omega)]; omega
    have hlt := letter_size x
    simp only [spec_l09DrawPath.l0]
    rw [if_pos (by omega), Option.bind_some, e1, Option.bind_some]
    simp only
    rw [if_pos hx.1, if_pos (by simpa using hx.2)]
    generalize rdOf ByteArray.empty [(⟨#[85]⟩ : ByteArray), (⟨#[76]⟩ : ByteArray), (⟨#[68]⟩ : ByteArray)] x = t at hlt
    have key2 : ∀ c : Bool, ∃ s a' h', spec_l09DrawPath.j2 (K + 1) i b out ((d + 1 : Nat) : Int) t c l a1 h1 = some (s, a', h') ∧ 0 ≤ a' ∧ s.size ≤ 1060 := by
      intro c
      simp only [spec_l09DrawPath.j2]
      rw [hw]
      split
      · rw [if_pos (by omega)]
        exact DrawPath_l0 h b d K _ _ a1 h1 g1 (by omega) (by omega) (by rw [app_size]; omega)
      · split
        · rw [if_pos (by omega)]
          exact DrawPath_l0 h b d K _ _ a1 h1 g1 (by omega) (by omega) (by rw [app_size]; omega)
        · obtain ⟨y, a2, h3, e2, g2, _⟩ := Next_ok h g1 h1 30
          rw [e2, Option.bind_some]
          simp only
          split
          · rw [if_pos (by omega)]
            exact DrawPath_l0 h b d K _ _ a2 h3 g2 (by omega) (by omega) (by rw [app_size]; have : (⟨#[76]⟩ : ByteArray).size = 1 := rfl; omega)
          · rw [if_pos (by omega)]
            exact DrawPath_l0 h b d K _ _ a2 h3 g2 (by omega) (by omega) (by rw [app_size]; omega)
    have key1 : ∀ c : Bool, ∃ s a' h', spec_l09DrawPath.j1 (K + 2) i b out ((d + 1 : Nat) : Int) t c l a1 h1 = some (s, a', h') ∧ 0 ≤ a' ∧ s.size ≤ 1060 := by
      intro c
      simp only [spec_l09DrawPath.j1]
      split
      · rw [if_pos (by omega), hw]
        exact DrawPath_l0 h b d (K + 1) _ _ a1 h1 g1 (by omega) (by omega) (by rw [app_size]; omega)
      · split
        · exact key2 _
        · exact key2 _
    split
    · exact key1 _
    · exact key1 _
theorem DrawPath_ok {l : List Int} (h : Code_ l) {at_ : Int} (ha : 0 ≤ at_) (hs i m b : Int) (hm0 : 0 ≤ m) (hm : m ≤ 100) (K : Nat) (hK : 5000 ≤ K) : ∃ s a' h', spec_l09DrawPath.f K l at_ hs i m b = some (s, a', h') ∧ 0 ≤ a' ∧ s.size ≤ 1060 := by
  unfold spec_l09DrawPath.f
  rw [wrap_id (x := m + 1) (by omega) (by omega)]
  obtain ⟨x, a1, h1, e1, g1, h2, _⟩ := Next_ok h ha hs (m + 1)
  have := h2 (by omega)
  rw [e1, Option.bind_some]
  simp only
  obtain ⟨d, rfl⟩ : ∃ d : Nat, x = d := ⟨x.toNat, by omega⟩
  exact DrawPath_l0 h b d K i _ a1 h1 g1 (by omega) (by omega) (by simp [ByteArray.size]; omega)
theorem pick3 {x : Int} (h : x ∈ [(4 : Int), 10, 25]) : 0 ≤ x ∧ x ≤ 100 := by
  simp only [List.mem_cons, List.not_mem_nil, or_false] at h
  omega
theorem DrawReversePath_ok {l : List Int} (h : Code_ l) (K : Nat) (hK : 5000 ≤ K) : ∃ s i, spec_DrawReversePath.f K l = some (s, i) ∧ s.size ≤ 1060 := by
  obtain ⟨h1, e1⟩ := From_ok h K hK
  unfold spec_DrawReversePath.f
  rw [e1, Option.bind_some]
  obtain ⟨x2, a2, h2, e2, g2, _⟩ := Pick_ok h (Int.le_refl 0) h1 [2, 24] (by simp)
  simp only
  rw [e2, Option.bind_some]
  obtain ⟨x3, a3, h3, e3, g3⟩ := Near_ok h g2 h2 x2
  simp only
  rw [e3, Option.bind_some]
  obtain ⟨x4, a4, h4, e4, g4, m4⟩ := Pick_ok h g3 h3 [4, 10, 25] (by simp)
  simp only
  rw [e4, Option.bind_some]
  obtain ⟨s, a5, h5, e5, g5, z5⟩ := DrawPath_ok h g4 h4 (mn (mx x3 0) 24) x4 100 (pick3 m4).1 (pick3 m4).2 K hK
  simp only
  rw [e5, Option.bind_some]
  exact ⟨_, _, rfl, z5⟩
theorem DrawHeightsOf_ok {l : List Int} (h : Code_ l) (K : Nat) (hK : 5000 ≤ K) : ∃ s i, spec_DrawHeightsOf.f K l = some (s, i) ∧ s.size ≤ 1060 := by
  obtain ⟨h1, e1⟩ := From_ok h K hK
  unfold spec_DrawHeightsOf.f
  rw [e1, Option.bind_some]
  obtain ⟨x2, a2, h2, e2, g2, _⟩ := Pick_ok h (Int.le_refl 0) h1 [2, 24] (by simp)
  simp only
  rw [e2, Option.bind_some]
  obtain ⟨x3, a3, h3, e3, g3⟩ := Near_ok h g2 h2 x2
  simp only
  rw [e3, Option.bind_some]
  obtain ⟨x4, a4, h4, e4, g4, m4⟩ := Pick_ok h g3 h3 [4, 10, 25] (by simp)
  simp only
  rw [e4, Option.bind_some]
  obtain ⟨s, a5, h5, e5, g5, z5⟩ := DrawPath_ok h g4 h4 (mn (mx x3 0) 24) x4 100 (pick3 m4).1 (pick3 m4).2 K hK
  simp only
  rw [e5, Option.bind_some]
  exact ⟨_, _, rfl, z5⟩
end Go.Proofs.Ytlodpobegdbhaaa.Pl

/- Part of the proof of the law FnPathCounts. -/
namespace Go.Proofs.Ytlodpobegdbhaaa.Pl
open Go.RowKit Go.Proofs.YtlodpobegdbhaaaW.PrintWords Go.Proofs.YtlodpobegdbhaaaW.PrintMore Go.Proofs.Ytlodpobegdbhaaa.X
set_option linter.unusedVariables false
set_option linter.unusedSimpArgs false
theorem DrawList_l0 {l : List Int} (h : Code_ l) (p c : Int) : ∀ (d K : Nat) (out : List Int) (at_ hs : Int), 0 ≤ at_ → d < K → out.length + d ≤ 1000 →
    ∃ z a' h', spec_l01DrawList.l0 K p (d : Int) out c l at_ hs = some (z, a', h') ∧ 0 ≤ a' ∧ z.length = out.length + d
  | 0, K, out, at_, hs, ha, hK, ho => by
    obtain ⟨K, rfl⟩ : ∃ q, K = q + 1 := ⟨K - 1, by omega⟩
    simp only [spec_l01DrawList.l0]
    rw [if_neg (by omega)]
    exact ⟨_, _, _, rfl, ha, rfl⟩
  | d + 1, K, out, at_, hs, ha, hK, ho => by
    obtain ⟨K, rfl⟩ : ∃ q, K = q + 1 := ⟨K - 1, by omega⟩
    have hw : wrap64 (((d + 1 : Nat) : Int) - 1) = (d : Int) := by rw [wrap_id (by omega) (by omega)]; omega
    simp only [spec_l01DrawList.l0]
    rw [if_pos (by omega), hw]
    have go : ∀ (x a1 h1 : Int), 0 ≤ a1 → ∃ z a' h', spec_l01DrawList.l0 K p (d : Int) (out ++ [x]) c l a1 h1 = some (z, a', h') ∧ 0 ≤ a' ∧ z.length = out.length + (d + 1) := fun x a1 h1 g1 => by
      obtain ⟨z, a', h', e, g, hz⟩ := DrawList_l0 h p c d K (out ++ [x]) a1 h1 g1 (by omega) (by simp; omega)
      exact ⟨z, a', h', e, g, by rw [hz]; simp; omega⟩
    split
    · obtain ⟨x, a1, h1, e1, g1, _⟩ := Next_ok h ha hs p
      rw [e1, Option.bind_some, if_pos (by omega)]
      exact go _ _ _ g1
    · obtain ⟨x, a1, h1, e1, g1, _⟩ := Next_ok h ha hs 3
      rw [e1, Option.bind_some]
      simp only
      split
      · obtain ⟨y, a2, h2, e2, g2, _⟩ := Next_ok h g1 h1 p
        rw [e2, Option.bind_some, if_pos (by omega)]
        exact go _ _ _ g2
      · rw [if_pos (by omega)]
        exact go _ _ _ g1
theorem DrawList_ok {l : List Int} (h : Code_ l) {at_ : Int} (ha : 0 ≤ at_) (hs p : Int) (n : Nat) (hn : n ≤ 900) (K : Nat) (hK : 1000 ≤ K) : ∃ z a' h', spec_l01DrawList.f K l at_ hs p n = some (z, a', h') ∧ 0 ≤ a' ∧ z.length = n := by
  unfold spec_l01DrawList.f
  obtain ⟨x, a1, h1, e1, g1, _⟩ := Next_ok h ha hs 3
  rw [e1, Option.bind_some]
  obtain ⟨z, a', h', e, g, hz⟩ := DrawList_l0 h p x n K [] a1 h1 g1 (by omega) (by simp; omega)
  exact ⟨z, a', h', e, g, by simpa using hz⟩
theorem DrawOf_l0 {l : List Int} (h : Code_ l) (p q : Int) (a : List Int) (hal : a.length ≤ 900) : ∀ (d K : Nat) (b : List Int) (at_ hs : Int), 0 ≤ at_ → d < K → b.length + d ≤ 1000 →
    ∃ a2 b2 a' h', spec_l03DrawOf.l0 K p (d : Int) l at_ hs q a b = some (q, a2, b2, a', h') ∧ 0 ≤ a' ∧ a2.length = a.length ∧ b2.length = b.length + d
  | 0, K, b, at_, hs, ha, hK, ho => by
    obtain ⟨K, rfl⟩ : ∃ q, K = q + 1 := ⟨K - 1, by omega⟩
    simp only [spec_l03DrawOf.l0]
    obtain ⟨x, a1, h1, e1, g1, _⟩ := Next_ok h ha hs 6
    rw [if_neg (by omega), e1, Option.bind_some]
    simp only
    split
    · rw [if_pos (by omega), if_pos (by omega)]
      exact ⟨_, _, _, _, rfl, g1, by simp, rfl⟩
    · exact ⟨_, _, _, _, rfl, g1, rfl, rfl⟩
  | d + 1, K, b, at_, hs, ha, hK, ho => by
    obtain ⟨K, rfl⟩ : ∃ q, K = q + 1 := ⟨K - 1, by omega⟩
    have hw : wrap64 (((d + 1 : Nat) : Int) - 1) = (d : Int) := by rw [wrap_id (by omega) (by omega)]; omega
    obtain ⟨x, a1, h1, e1, g1, _⟩ := Next_ok h ha hs (wrap64 (p - 1))
    simp only [spec_l03DrawOf.l0]
    rw [if_pos (by omega), hw, e1, Option.bind_some]
    simp only
    rw [if_pos (by omega)]
    obtain ⟨a2, b2, a', h', e, g, h2, h3⟩ := DrawOf_l0 h p q a hal d K (b ++ [wrap64 (1 + x)]) a1 h1 g1 (by omega) (by simp; omega)
    exact ⟨a2, b2, a', h', e, g, h2, by rw [h3]; simp; omega⟩
theorem DrawOf_ok {l : List Int} (h : Code_ l) {at_ : Int} (ha : 0 ≤ at_) (hs p m : Int) (hm : 1 ≤ m) (hm2 : m ≤ 100) (K : Nat) (hK : 2000 ≤ K) : ∃ a b a' h', spec_l03DrawOf.f K l at_ hs p m = some (p, a, b, a', h') ∧ 0 ≤ a' ∧ 1 ≤ a.length ∧ a.length ≤ 100 ∧ b.length = a.length := by
  unfold spec_l03DrawOf.f
  obtain ⟨x, a1, h1, e1, g1, h2, _⟩ := Next_ok h ha hs m
  have hx := h2 hm
  rw [e1, Option.bind_some]
  simp only
  obtain ⟨n, rfl⟩ : ∃ n : Nat, x = n := ⟨x.toNat, by omega⟩
  rw [wrap_id (x := 1 + (n : Int)) (by omega) (by omega), show (1 + (n : Int)) = ((n + 1 : Nat) : Int) by omega]
  obtain ⟨z, a2, h2', e2, g2, hz⟩ := DrawList_ok h g1 h1 p (n + 1) (by omega) K (by omega)
  rw [e2, Option.bind_some]
  simp only
  obtain ⟨a3, b3, a4, h4, e4, g4, h5, h6⟩ := DrawOf_l0 h p p z (by omega) (n + 1) K [] a2 h2' g2 (by omega) (by simp; omega)
  exact ⟨a3, b3, a4, h4, e4, g4, by omega, by omega, by rw [h6]; simp; omega⟩
theorem pickR {x : Int} (h : x ∈ [(2 : Int), 3, 4, 6, 12]) : 1 ≤ x ∧ x ≤ 100 := by
  simp only [List.mem_cons, List.not_mem_nil, or_false] at h
  omega
theorem OwnJ {f : List Int} (hn : f.length ≤ 1000000) : spec_l01Own.f f = some f := by
  unfold spec_l01Own.f
  rw [Option.bind_some, if_pos (by simp; omega)]
  rfl
theorem Spoil_ok {l : List Int} (h : Code_ l) {at_ : Int} (ha : 0 ≤ at_) (hs : Int) (K : Nat) (hK : 2000 ≤ K) : ∃ p a b a' h', spec_l03Spoil.f K l at_ hs = some (p, a, b, a', h') ∧ 0 ≤ a' ∧ 1 ≤ a.length ∧ a.length ≤ 100 ∧ b.length ≤ 101 := by
  unfold spec_l03Spoil.f spec_l03Draw.f spec_l01DrawPrime.f
  obtain ⟨p, a1, h1, e1, g1, _⟩ := Pick_ok h ha hs [2, 3, 5, 7, 7, 11, 13, 17, 31, 101, 997, 10007] (by simp)
  rw [e1, Option.bind_some, Option.bind_some]
  obtain ⟨m, a2, h2, e2, g2, m2⟩ := Pick_ok h g1 h1 [2, 3, 4, 6, 12] (by simp)
  simp only
  rw [e2, Option.bind_some]
  obtain ⟨a, b, a3, h3, e3, g3, hl1, hl2, hl3⟩ := DrawOf_ok h g2 h2 p m (pickR m2).1 (pickR m2).2 K hK
  simp only
  rw [e3, Option.bind_some, Option.bind_some]
  simp only
  have hb : b.length ≤ 100 := by rw [hl3]; exact hl2
  unfold spec_l03Bad.f
  obtain ⟨x, a4, h4, e4, g4, _⟩ := Next_ok h g3 h3 40
  rw [e4, Option.bind_some]
  simp only
  by_cases c0 : x = 0
  · obtain ⟨y, a5, h5, e5, g5, _⟩ := Pick_ok h g4 h4 [0, 4, 10009] (by simp)
    rw [if_pos c0, e5, Option.bind_some, Option.bind_some]
    exact ⟨_, _, _, _, _, rfl, g5, hl1, hl2, by show b.length ≤ 101; omega⟩
  · rw [if_neg c0]
    by_cases c1 : x = 1
    · rw [if_pos c1, OwnJ (by omega), Option.bind_some, if_pos (by omega), Option.bind_some]
      exact ⟨_, _, _, _, _, rfl, g4, hl1, hl2, by simp; omega⟩
    · rw [if_neg c1]
      by_cases c2 : x = 2
      · obtain ⟨y, a5, h5, e5, g5, r5, _⟩ := Next_ok h g4 h4 (b.length : Int)
        have := r5 (by omega)
        obtain ⟨z, a6, h6, e6, g6, _⟩ := Pick_ok h g5 h5 [0, p] (by simp)
        rw [if_pos c2, OwnJ (by omega), Option.bind_some, e5, Option.bind_some]
        simp only
        rw [e6, Option.bind_some, if_pos this.1, if_pos this.2, Option.bind_some]
        exact ⟨_, _, _, _, _, rfl, g6, hl1, hl2, by simp; omega⟩
      · rw [if_neg c2]
        by_cases c3 : x = 3
        · obtain ⟨z, a6, h6, e6, g6, _⟩ := Pick_ok h g4 h4 [(-1), p] (by simp)
          rw [if_pos c3, OwnJ (by omega), Option.bind_some, e6, Option.bind_some, if_pos (by omega), Option.bind_some]
          exact ⟨_, _, _, _, _, rfl, g6, by simp; omega, by simp; omega, by show b.length ≤ 101; omega⟩
        · rw [if_neg c3, Option.bind_some]
          exact ⟨_, _, _, _, _, rfl, g4, hl1, hl2, by show b.length ≤ 101; omega⟩
theorem DrawWeightOfPath_ok {l : List Int} (h : Code_ l) (K : Nat) (hK : 5000 ≤ K) : ∃ p a b s i, spec_DrawWeightOfPath.f K l = some (p, a, b, s, i) ∧ s.size ≤ 1060 ∧ a.length ≤ 100 ∧ b.length ≤ 101 := by
  obtain ⟨h1, e1⟩ := From_ok h K hK
  unfold spec_DrawWeightOfPath.f
  rw [e1, Option.bind_some]
  obtain ⟨p, a, b, a2, h2, e2, g2, hl1, hl2, hl3⟩ := Spoil_ok h (Int.le_refl 0) h1 K (by omega)
  simp only
  rw [e2, Option.bind_some]
  obtain ⟨x3, a3, h3, e3, g3⟩ := Near_ok h g2 h2 (wrap64 ((a.length : Int) - 1))
  simp only
  rw [e3, Option.bind_some]
  obtain ⟨x4, a4, h4, e4, g4, m4⟩ := Pick_ok h g3 h3 [4, 10, 25] (by simp)
  simp only
  rw [e4, Option.bind_some]
  obtain ⟨s, a5, h5, e5, g5, z5⟩ := DrawPath_ok h g4 h4 (mn (mx x3 0) (wrap64 ((a.length : Int) - 1))) x4 (a.length : Int) (pick3 m4).1 (pick3 m4).2 K hK
  simp only
  rw [e5, Option.bind_some]
  exact ⟨_, _, _, _, _, rfl, z5, hl2, hl3⟩
end Go.Proofs.Ytlodpobegdbhaaa.Pl

/- Part of the proof of the law FnPathCounts. -/
namespace Go.Proofs.Ytlodpobegdbhaaa.Pl
open Go.RowKit Go.Proofs.YtlodpobegdbhaaaW.PrintWords Go.Proofs.YtlodpobegdbhaaaW.PrintMore Go.Proofs.Ytlodpobegdbhaaa.X
set_option linter.unusedVariables false
set_option linter.unusedSimpArgs false
set_option maxRecDepth 20000
def lt_ (s : ByteArray) : List UInt8 := s.data.toList
theorem bs_lt (s : ByteArray) : bs (lt_ s) = s := by simp [bs, lt_]
theorem lt_bs (l : List UInt8) : lt_ (bs l) = l := by simp [bs, lt_]
theorem lt_length (s : ByteArray) : (lt_ s).length = s.size := by simp [lt_]
theorem bytesOf_lt (s : ByteArray) : bytesOf s = (lt_ s).map fun b => (b.toNat : Int) := rfl
theorem bytes_rd {s : ByteArray} {i : Nat} (h : i < (lt_ s).length) : rd (bytesOf s) (i : Int) = ((lt_ s)[i].toNat : Int) := by
  rw [rd_nat (by rw [bytesOf_lt, List.length_map]; exact h)]
  simp [bytesOf_lt]
theorem u8_eq {b : UInt8} {n : Nat} (hn : n < 256) : ((b.toNat : Int) = (n : Int)) ↔ b = UInt8.ofNat n := by
  constructor
  · intro h
    have h2 : b.toNat = n := by omega
    rw [← h2]; simp
  · intro h
    subst h
    simp; omega
theorem u85 {b : UInt8} : ((b.toNat : Int) = 85) ↔ b = 85 := u8_eq (n := 85) (by decide)
theorem u68 {b : UInt8} : ((b.toNat : Int) = 68) ↔ b = 68 := u8_eq (n := 68) (by decide)
theorem u76 {b : UInt8} : ((b.toNat : Int) = 76) ↔ b = 76 := u8_eq (n := 76) (by decide)
def hts' : Nat → List UInt8 → Option (List Nat)
  | _, [] => some []
  | i, c :: cs => (stepc i c).bind fun j => (hts' j cs).map (j :: ·)
theorem hts'_fin : ∀ (x : List UInt8) (i : Nat) (l : List Nat), hts' i x = some l → l.length = x.length ∧ fin_ i x = some ((i :: l).getLastD 0) ∧ ∀ y ∈ l, y ≤ i + x.length
  | [], i, l, h => by
    simp only [hts', Option.some.injEq] at h
    subst h
    simp [fin_]
  | c :: cs, i, l, h => by
    simp only [hts'] at h
    obtain ⟨j, hj, h⟩ := Option.bind_eq_some_iff.1 h
    obtain ⟨m, hm, rfl⟩ := Option.map_eq_some_iff.1 h
    obtain ⟨h1, h2, h3⟩ := hts'_fin cs j m hm
    have hji : j ≤ i + 1 := by
      unfold stepc at hj
      split at hj
      · injection hj with hj; omega
      · split at hj
        · split at hj
          · injection hj with hj; omega
          · cases hj
        · split at hj
          · injection hj with hj; omega
          · cases hj
    refine ⟨by simp [h1], ?_, ?_⟩
    · simp only [fin_, hj, Option.bind_some]
      rw [h2]
      simp
    · intro y hy
      simp only [List.length_cons]
      rcases List.mem_cons.1 hy with rfl | hy
      · omega
      · have := h3 y hy; omega
theorem fin_hts' : ∀ (x : List UInt8) (i e : Nat), fin_ i x = some e → ∃ l, hts' i x = some l
  | [], i, e, h => ⟨[], rfl⟩
  | c :: cs, i, e, h => by
    simp only [fin_] at h
    obtain ⟨j, hj, h⟩ := Option.bind_eq_some_iff.1 h
    obtain ⟨l, hl⟩ := fin_hts' cs j e h
    exact ⟨j :: l, by simp [hts', hj, hl]⟩
def ints (l : List Nat) : List Int := l.map fun (n : Nat) => (n : Int)
def hAns (out : List Int) (o : Option (List Nat)) (ok : Bool) : List Int × Bool := match o with | none => ([], false) | some l => (out ++ ints l, ok)
theorem hAns_cons (out : List Int) (j : Nat) (o : Option (List Nat)) (ok : Bool) : hAns out (o.map (j :: ·)) ok = hAns (out ++ [(j : Int)]) o ok := by
  cases o with
  | none => rfl
  | some l => simp [hAns, ints]
theorem heights_l0 (s : ByteArray) (hs : s.size ≤ 100000) : ∀ (d i K c : Nat) (out : List Int), i + d = (lt_ s).length → d < K → c ≤ 100000 + i → out.length ≤ 100000 + i →
    impl_heights.l0 K c out (bytesOf s) ((lt_ s).length : Int) i = some (hAns out (hts' c ((lt_ s).drop i)) true)
  | 0, i, K, c, out, hd, hK, hc, ho => by
    obtain ⟨K, rfl⟩ : ∃ q, K = q + 1 := ⟨K - 1, by omega⟩
    simp only [impl_heights.l0]
    rw [if_neg (by omega), List.drop_eq_nil_of_le (by omega)]
    simp [hts', hAns, ints]
  | d + 1, i, K, c, out, hd, hK, hc, ho => by
    obtain ⟨K, rfl⟩ : ∃ q, K = q + 1 := ⟨K - 1, by omega⟩
    have hl := lt_length s
    have hi : i < (lt_ s).length := by omega
    have hbl : (bytesOf s).length = (lt_ s).length := by rw [bytesOf_length, hl]
    rw [List.drop_eq_getElem_cons hi]
    simp only [impl_heights.l0, hts', stepc]
    rw [if_pos (by omega), if_pos (by omega), if_pos (by rw [hbl]; omega), bytes_rd hi]
    generalize (lt_ s)[i] = b
    have hw : wrap64 ((i : Int) + 1) = ((i + 1 : Nat) : Int) := by rw [wrap_id (by omega) (by omega)]; omega
    by_cases h1 : b = 85
    · rw [if_pos (u85.2 h1), if_pos h1, wrap_id (x := (c : Int) + 1) (by omega) (by omega), if_neg (by omega), if_pos (by omega), Option.bind_some, hw, show ((c : Int) + 1) = ((c + 1 : Nat) : Int) by omega, hAns_cons]
      exact heights_l0 s hs d (i + 1) K (c + 1) _ (by omega) (by omega) (by omega) (by simp; omega)
    · rw [if_neg (fun h => h1 (u85.1 h)), if_neg h1]
      by_cases h2 : b = 68
      · rw [if_pos (u68.2 h2), if_pos h2, wrap_id (x := (c : Int) - 1) (by omega) (by omega)]
        by_cases h3 : 0 < c
        · rw [if_neg (by omega), if_pos (by omega), if_pos h3, Option.bind_some, hw, show ((c : Int) - 1) = ((c - 1 : Nat) : Int) by omega, hAns_cons]
          exact heights_l0 s hs d (i + 1) K (c - 1) _ (by omega) (by omega) (by omega) (by simp; omega)
        · rw [if_pos (by omega), if_neg h3]
          rfl
      · rw [if_neg (fun h => h2 (u68.1 h)), if_neg h2]
        by_cases h3 : b = 76
        · rw [if_pos (u76.2 h3), if_pos h3, if_neg (by omega), if_pos (by omega), Option.bind_some, hw, hAns_cons]
          exact heights_l0 s hs d (i + 1) K c _ (by omega) (by omega) (by omega) (by simp; omega)
        · rw [if_neg (fun h => h3 (u76.1 h)), if_neg h3]
          rfl
theorem heights_eq (s : ByteArray) (hs : s.size ≤ 10000) (c K : Nat) (hc : c ≤ 1000) (hK : 20000 ≤ K) : impl_heights.f K s c = some (hAns [(c : Int)] (hts' c (lt_ s)) true) := by
  have hl := lt_length s
  unfold impl_heights.f
  rw [if_pos (by omega), Option.bind_some]
  have := heights_l0 s (by omega) (lt_ s).length 0 K c [(c : Int)] (by omega) (by omega) (by omega) (by simp)
  rw [bytesOf_length, ← hl]
  simpa using this
theorem Heights_l0 (s : ByteArray) (hs : s.size ≤ 100000) : ∀ (d i K c : Nat) (out : List Int), i + d = (lt_ s).length → d < K → c ≤ 100000 + i → out.length ≤ 100000 + i →
    spec_l09Heights.l0 K s c out i = some (hAns out (hts' c ((lt_ s).drop i)) (decide ((s.size : Int) ≤ 24)))
  | 0, i, K, c, out, hd, hK, hc, ho => by
    obtain ⟨K, rfl⟩ : ∃ q, K = q + 1 := ⟨K - 1, by omega⟩
    have hl := lt_length s
    simp only [spec_l09Heights.l0]
    rw [if_neg (by omega), List.drop_eq_nil_of_le (by omega)]
    simp [hts', hAns, ints]
  | d + 1, i, K, c, out, hd, hK, hc, ho => by
    obtain ⟨K, rfl⟩ : ∃ q, K = q + 1 := ⟨K - 1, by omega⟩
    have hl := lt_length s
    have hi : i < (lt_ s).length := by omega
    rw [List.drop_eq_getElem_cons hi]
    simp only [spec_l09Heights.l0, hts', stepc]
    rw [if_pos (by omega), if_pos (by omega), ← rd_bytesOf, bytes_rd hi]
    generalize (lt_ s)[i] = b
    have hw : wrap64 ((i : Int) + 1) = ((i + 1 : Nat) : Int) := by rw [wrap_id (by omega) (by omega)]; omega
    by_cases h1 : b = 85
    · rw [if_pos (u85.2 h1), if_pos h1, wrap_id (x := (c : Int) + 1) (by omega) (by omega), if_neg (by omega), if_pos (by omega), Option.bind_some, hw, show ((c : Int) + 1) = ((c + 1 : Nat) : Int) by omega, hAns_cons]
      exact Heights_l0 s hs d (i + 1) K (c + 1) _ (by omega) (by omega) (by omega) (by simp; omega)
    · rw [if_neg (fun h => h1 (u85.1 h)), if_neg h1]
      by_cases h2 : b = 68
      · rw [if_pos (u68.2 h2), if_pos h2, wrap_id (x := (c : Int) - 1) (by omega) (by omega)]
        by_cases h3 : 0 < c
        · rw [if_neg (by omega), if_pos (by omega), if_pos h3, Option.bind_some, hw, show ((c : Int) - 1) = ((c - 1 : Nat) : Int) by omega, hAns_cons]
          exact Heights_l0 s hs d (i + 1) K (c - 1) _ (by omega) (by omega) (by omega) (by simp; omega)
        · rw [if_pos (by omega), if_neg h3]
          rfl
      · rw [if_neg (fun h => h2 (u68.1 h)), if_neg h2]
        by_cases h3 : b = 76
        · rw [if_pos (u76.2 h3), if_pos h3, if_neg (by omega), if_pos (by omega), Option.bind_some, hw, hAns_cons]
          exact Heights_l0 s hs d (i + 1) K c _ (by omega) (by omega) (by omega) (by simp; omega)
        · rw [if_neg (fun h => h3 (u76.1 h)), if_neg h3]
          rfl
theorem Heights_eq (s : ByteArray) (hs : s.size ≤ 10000) (c K : Nat) (hc : c ≤ 1000) (hK : 20000 ≤ K) : spec_l09Heights.f K s c = some (hAns [(c : Int)] (hts' c (lt_ s)) (decide ((s.size : Int) ≤ 24))) := by
  have hl := lt_length s
  unfold spec_l09Heights.f
  have := Heights_l0 s (by omega) (lt_ s).length 0 K c [(c : Int)] (by omega) (by omega) (by omega) (by simp)
  simpa using this
theorem within2 (x lo hi : Int) : impl_within.f x lo hi = some (decide (lo ≤ x ∧ x ≤ hi)) := by
  unfold impl_within.f
  by_cases h : lo ≤ x
  · rw [if_pos h]; simp [h]
  · rw [if_neg h]; simp [h]
noncomputable def phAns (s : ByteArray) (i most : Int) : List Int × Bool := if s.size ≤ 24 ∧ 0 ≤ i ∧ i ≤ most then hAns [i] (hts' i.toNat (lt_ s)) true else ([], false)
theorem pathHeights_eq (s : ByteArray) (i most : Int) (hm : most ≤ 100) (K : Nat) (hK : 20000 ≤ K) : impl_pathHeights.f K s i most = some (phAns s i most) := by
  unfold impl_pathHeights.f phAns
  by_cases h1 : (s.size : Int) > 24
  · rw [if_pos h1, if_neg (by omega)]
  · rw [if_neg h1, within2, Option.bind_some]
    by_cases h2 : 0 ≤ i ∧ i ≤ most
    · obtain ⟨c, rfl⟩ : ∃ c : Nat, i = c := ⟨i.toNat, by omega⟩
      rw [if_pos (by simpa using h2.2), if_pos ⟨by omega, h2⟩, heights_eq s (by omega) c K (by omega) hK, Option.bind_some, Int.toNat_natCast]
    · rw [if_neg (by simpa using h2), if_neg (fun h => h2 h.2)]
noncomputable def hofAns (s : ByteArray) (i : Int) : List Int × Int := if (phAns s i 24).2 = true then ((phAns s i 24).1, 0) else ([], 2)
theorem HeightsOf_eq (s : ByteArray) (i : Int) (K : Nat) (hK : 20000 ≤ K) : impl_HeightsOf.f K s i = some (hofAns s i) := by
  unfold impl_HeightsOf.f hofAns
  rw [pathHeights_eq s i 24 (by omega) K hK, Option.bind_some]
  split <;> rfl
theorem l09In (x lo hi : Int) : spec_l01In.f x lo hi = some (decide (lo ≤ x ∧ x ≤ hi)) := within2 x lo hi
theorem spec_HeightsOf_eq (s : ByteArray) (i : Int) (hs : s.size ≤ 10000) (K : Nat) (hK : 20000 ≤ K) : spec_HeightsOf.f K s i = some (hofAns s i) := by
  unfold spec_HeightsOf.f hofAns phAns
  rw [l09In, Option.bind_some]
  by_cases h2 : 0 ≤ i ∧ i ≤ 24
  · obtain ⟨c, rfl⟩ : ∃ c : Nat, i = c := ⟨i.toNat, by omega⟩
    rw [if_pos (by simpa using h2.2), Heights_eq s hs c K (by omega) hK, Option.bind_some, Int.toNat_natCast]
    by_cases h1 : s.size ≤ 24
    · have hc : s.size ≤ 24 ∧ 0 ≤ (c : Int) ∧ (c : Int) ≤ 24 := ⟨h1, h2⟩
      have hd : decide ((s.size : Int) ≤ 24) = true := decide_eq_true (by omega)
      rw [hd]
      simp only [if_pos hc]
      split <;> rfl
    · have hc : ¬ (s.size ≤ 24 ∧ 0 ≤ (c : Int) ∧ (c : Int) ≤ 24) := fun h => h1 h.1
      have hd : decide ((s.size : Int) ≤ 24) = false := decide_eq_false (by omega)
      rw [hd]
      simp only [if_neg hc]
      cases hts' c (lt_ s) <;> simp [hAns]
  · have hc : ¬ (s.size ≤ 24 ∧ 0 ≤ i ∧ i ≤ 24) := fun h => h2 h.2
    rw [if_neg (by simpa using h2)]
    simp only [if_neg hc]
    simp
end Go.Proofs.Ytlodpobegdbhaaa.Pl

/- Part of the proof of the law FnPathCounts. -/
namespace Go.Proofs.Ytlodpobegdbhaaa.Pl
open Go.RowKit Go.Proofs.YtlodpobegdbhaaaW.PrintWords Go.Proofs.YtlodpobegdbhaaaW.PrintMore Go.Proofs.Ytlodpobegdbhaaa.X
set_option linter.unusedVariables false
set_option linter.unusedSimpArgs false
set_option maxRecDepth 20000
theorem getD_set (x : List Int) (a t : Nat) (v : Int) (ha : a < x.length) : (x.set a v).getD t 0 = if t = a then v else x.getD t 0 := by
  rw [List.getD_eq_getElem?_getD, List.getD_eq_getElem?_getD, List.getElem?_set]
  by_cases h : a = t
  · rw [if_pos h, if_pos h.symm, if_pos ha]; rfl
  · rw [if_neg h, if_neg (Ne.symm h)]
theorem rev_l0 (l : List Int) (hl : l.length ≤ 100000) : ∀ (d K i : Nat) (j : Int) (x : List Int), (i : Int) + j + 1 = l.length → j - i < 2 * d → d < K → x.length = l.length → -1 ≤ j →
    (∀ t : Nat, t < l.length → x.getD t 0 = if t < i ∨ j < t then l.getD (l.length - 1 - t) 0 else l.getD t 0) → slices_Reverse_byte_byte.l0 K x i j = some l.reverse
  | 0, K, i, j, x, hij, hd, hK, hx, hj, ht => by
    obtain ⟨K, rfl⟩ : ∃ q, K = q + 1 := ⟨K - 1, by omega⟩
    simp only [slices_Reverse_byte_byte.l0]
    rw [if_neg (by omega)]
    congr 1
    apply List.ext_getElem
    · simp [hx]
    · intro t h1 h2
      have := ht t (by omega)
      rw [List.getD_eq_getElem?_getD, List.getElem?_eq_getElem h1] at this
      simp only [Option.getD_some] at this
      rw [this, List.getElem_reverse]
      rw [if_pos (by omega), List.getD_eq_getElem?_getD, List.getElem?_eq_getElem (by omega)]
      rfl
  | d + 1, K, i, j, x, hij, hd, hK, hx, hj, ht => by
    obtain ⟨K, rfl⟩ : ∃ q, K = q + 1 := ⟨K - 1, by omega⟩
    simp only [slices_Reverse_byte_byte.l0]
    by_cases hlt : (i : Int) < j
    · obtain ⟨m, rfl⟩ : ∃ m : Nat, j = m := ⟨j.toNat, by omega⟩
      rw [if_pos hlt, if_pos (by omega), if_pos (by omega), if_pos (by omega), if_pos (by omega), wrap_id (x := (i : Int) + 1) (by omega) (by omega), wrap_id (x := (m : Int) - 1) (by omega) (by omega), show ((i : Int)).toNat = i from rfl, show ((m : Int)).toNat = m from rfl, show ((i : Int) + 1) = ((i + 1 : Nat) : Int) by omega]
      refine rev_l0 l hl d K (i + 1) ((m : Int) - 1) _ (by omega) (by omega) (by omega) (by simp [hx]) (by omega) (fun t h => ?_)
      have hi := ht i (by omega)
      have hm := ht m (by omega)
      rw [if_neg (by omega)] at hi hm
      rw [getD_set _ _ _ _ (by simp; omega), getD_set _ _ _ _ (by omega)]
      have e1 : rd x (m : Int) = l.getD m 0 := by rw [← hm]; rfl
      have e2 : rd x (i : Int) = l.getD i 0 := by rw [← hi]; rfl
      rw [e1, e2]
      by_cases c1 : t = m
      · subst c1
        rw [if_pos rfl, if_pos (by omega), show l.length - 1 - t = i by omega]
      · rw [if_neg c1]
        by_cases c2 : t = i
        · subst c2
          rw [if_pos rfl, if_pos (by omega), show l.length - 1 - t = m by omega]
        · rw [if_neg c2, ht t h]
          by_cases c3 : t < i ∨ (m : Int) < t
          · rw [if_pos c3, if_pos (by omega)]
          · rw [if_neg c3, if_neg (by omega)]
    · rw [if_neg hlt]
      congr 1
      apply List.ext_getElem
      · simp [hx]
      · intro t h1 h2
        have := ht t (by omega)
        rw [List.getD_eq_getElem?_getD, List.getElem?_eq_getElem h1] at this
        simp only [Option.getD_some] at this
        rw [this, List.getElem_reverse]
        by_cases c : t < i ∨ j < t
        · rw [if_pos c, List.getD_eq_getElem?_getD, List.getElem?_eq_getElem (by omega)]
          rfl
        · rw [if_neg c, List.getD_eq_getElem?_getD, List.getElem?_eq_getElem (by omega)]
          have : l.length - 1 - t = t := by omega
          simp [this]
theorem reverse_eq (l : List Int) (hl : l.length ≤ 10000) (K : Nat) (hK : 20000 ≤ K) : slices_Reverse_byte_byte.f K l = some l.reverse := by
  unfold slices_Reverse_byte_byte.f
  rw [wrap_id (by omega) (by omega)]
  have := rev_l0 l (by omega) (l.length + 1) K 0 ((l.length : Int) - 1) l (by omega) (by omega) (by omega) rfl (by omega) (fun t h => by rw [if_neg (by omega)])
  exact this
theorem sw_int (b : UInt8) : UInt8.ofNat (swI (b.toNat : Int)).toNat = sw b := by
  unfold swI sw
  by_cases h1 : b = 85
  · rw [if_pos (u85.2 h1), if_pos h1]; rfl
  · rw [if_neg (fun h => h1 (u85.1 h)), if_neg h1]
    by_cases h2 : b = 68
    · rw [if_pos (u68.2 h2), if_pos h2]; rfl
    · rw [if_neg (fun h => h2 (u68.1 h)), if_neg h2]
      simp
theorem str_rv (s : ByteArray) : strOfNums ((bytesOf s).reverse.map swI) = bs (rv (lt_ s)) := by
  unfold strOfNums bs rv
  congr 2
  rw [bytesOf_lt, ← List.map_reverse, List.map_map, List.map_map, ← List.map_reverse]
  apply List.map_congr_left
  intro b _
  exact sw_int b
noncomputable def revAns (s : ByteArray) (i : Int) : ByteArray × Int := if (phAns s i 24).2 = true then (bs (rv (lt_ s)), 0) else ((⟨#[]⟩ : ByteArray), 2)
theorem ReversePath_eq (s : ByteArray) (i : Int) (hs : s.size ≤ 10000) (K : Nat) (hK : 20000 ≤ K) : impl_ReversePath.f K s i = some (revAns s i) := by
  unfold impl_ReversePath.f revAns
  rw [pathHeights_eq s i 24 (by omega) K hK, Option.bind_some]
  split
  · rw [if_pos (by omega), reverse_eq _ (by rw [bytesOf_length]; omega) K hK, Option.bind_some, str_rv]
  · rfl
def spI (c : UInt8) : Int := if c = 85 then 68 else if c = 68 then 85 else 76
theorem Reverse_l0 (s : ByteArray) (hs : s.size ≤ 100000) : ∀ (d K : Nat) (out : List Int), d ≤ (lt_ s).length → d < K → out.length + d ≤ 100000 → spec_ReversePath.l0 K s out ((d : Int) - 1) = some (strOfNums (out ++ ((lt_ s).take d).reverse.map spI), 0)
  | 0, K, out, hd, hK, ho => by
    obtain ⟨K, rfl⟩ : ∃ q, K = q + 1 := ⟨K - 1, by omega⟩
    simp only [spec_ReversePath.l0]
    rw [if_neg (by omega)]
    simp
  | d + 1, K, out, hd, hK, ho => by
    obtain ⟨K, rfl⟩ : ∃ q, K = q + 1 := ⟨K - 1, by omega⟩
    have hl := lt_length s
    have hi : d < (lt_ s).length := by omega
    have ih := fun x => Reverse_l0 s hs d K (out ++ [x]) (by omega) (by omega) (by simp; omega)
    have ht : ((lt_ s).take (d + 1)).reverse.map spI = spI (lt_ s)[d] :: ((lt_ s).take d).reverse.map spI := by
      rw [List.take_succ_eq_append_getElem hi, List.reverse_append, List.reverse_singleton, List.singleton_append, List.map_cons]
    rw [ht, show (((d + 1 : Nat) : Int) - 1) = (d : Int) by omega]
    simp only [spec_ReversePath.l0]
    rw [if_pos (by omega), if_pos (by omega), if_pos (by omega), ← rd_bytesOf, bytes_rd hi, wrap_id (x := (d : Int) - 1) (by omega) (by omega)]
    generalize (lt_ s)[d] = b
    by_cases h1 : b = 85
    · have e : spI b = 68 := by unfold spI; rw [if_pos h1]
      rw [if_pos (u85.2 h1), if_pos (by omega), ih, e, List.append_assoc, List.singleton_append]
    · rw [if_neg (fun h => h1 (u85.1 h))]
      by_cases h2 : b = 68
      · have e : spI b = 85 := by unfold spI; rw [if_neg h1, if_pos h2]
        rw [if_pos (u68.2 h2), if_pos (by omega), ih, e, List.append_assoc, List.singleton_append]
      · have e : spI b = 76 := by unfold spI; rw [if_neg h1, if_neg h2]
        rw [if_neg (fun h => h2 (u68.1 h)), if_pos (by omega), ih, e, List.append_assoc, List.singleton_append]
theorem hts'_letters : ∀ (x : List UInt8) (i : Nat) (l : List Nat), hts' i x = some l → ∀ c ∈ x, c = 85 ∨ c = 68 ∨ c = 76
  | [], _, _, _, c, hc => by cases hc
  | c :: cs, i, l, h, b, hb => by
    simp only [hts'] at h
    obtain ⟨j, hj, h⟩ := Option.bind_eq_some_iff.1 h
    obtain ⟨m, hm, rfl⟩ := Option.map_eq_some_iff.1 h
    rcases List.mem_cons.1 hb with rfl | hb
    · unfold stepc at hj
      by_cases h1 : b = 85
      · exact .inl h1
      · rw [if_neg h1] at hj
        by_cases h2 : b = 68
        · exact .inr (.inl h2)
        · rw [if_neg h2] at hj
          by_cases h3 : b = 76
          · exact .inr (.inr h3)
          · rw [if_neg h3] at hj; cases hj
    · exact hts'_letters cs j m hm b hb
theorem str_sp (x : List UInt8) (h : ∀ c ∈ x, c = 85 ∨ c = 68 ∨ c = 76) : strOfNums (x.reverse.map spI) = bs (rv x) := by
  unfold strOfNums bs rv
  congr 2
  rw [List.map_map, ← List.map_reverse]
  apply List.map_congr_left
  intro b hb
  have := h b (List.mem_reverse.1 hb)
  rcases this with rfl | rfl | rfl <;> rfl
theorem spec_ReversePath_eq (s : ByteArray) (i : Int) (hs : s.size ≤ 10000) (K : Nat) (hK : 20000 ≤ K) : spec_ReversePath.f K s i = some (revAns s i) := by
  have hl := lt_length s
  unfold spec_ReversePath.f revAns phAns
  rw [l09In, Option.bind_some]
  by_cases h2 : 0 ≤ i ∧ i ≤ 24
  · obtain ⟨c, rfl⟩ : ∃ c : Nat, i = c := ⟨i.toNat, by omega⟩
    rw [if_pos (by simpa using h2.2), Heights_eq s hs c K (by omega) hK, Option.bind_some, Int.toNat_natCast]
    by_cases h1 : s.size ≤ 24
    · have hc : s.size ≤ 24 ∧ 0 ≤ (c : Int) ∧ (c : Int) ≤ 24 := ⟨h1, h2⟩
      have hd : decide ((s.size : Int) ≤ 24) = true := decide_eq_true (by omega)
      rw [hd]
      simp only [if_pos hc]
      cases hh : hts' c (lt_ s) with
      | none => simp [hAns]
      | some l =>
        simp only [hAns, if_true]
        have := Reverse_l0 s (by omega) (lt_ s).length K [] (Nat.le_refl _) (by omega) (by simp; omega)
        rw [List.take_length, List.nil_append, str_sp _ (hts'_letters _ _ _ hh)] at this
        rw [wrap_id (by omega) (by omega), ← hl]
        exact this
    · have hc : ¬ (s.size ≤ 24 ∧ 0 ≤ (c : Int) ∧ (c : Int) ≤ 24) := fun h => h1 h.1
      have hd : decide ((s.size : Int) ≤ 24) = false := decide_eq_false (by omega)
      rw [hd]
      simp only [if_neg hc]
      cases hts' c (lt_ s) <;> simp [hAns]
  · have hc : ¬ (s.size ≤ 24 ∧ 0 ≤ i ∧ i ≤ 24) := fun h => h2 h.2
    rw [if_neg (by simpa using h2)]
    simp only [if_neg hc]
    simp
theorem rev_back (s : ByteArray) (i : Int) (h : (phAns s i 24).2 = true) : ∃ l : List Nat, hts' i.toNat (lt_ s) = some l ∧ (phAns s i 24).1 = i :: ints l ∧ 0 ≤ i ∧ i ≤ 24 ∧ s.size ≤ 24 ∧
    ∀ e : Nat, fin_ i.toNat (lt_ s) = some e → e ≤ 24 → revAns (bs (rv (lt_ s))) e = (s, 0) := by
  unfold phAns at h ⊢
  by_cases hc : s.size ≤ 24 ∧ 0 ≤ i ∧ i ≤ 24
  · rw [if_pos hc] at h ⊢
    cases hh : hts' i.toNat (lt_ s) with
    | none => rw [hh] at h; simp [hAns] at h
    | some l =>
      refine ⟨l, rfl, rfl, hc.2.1, hc.2.2, hc.1, fun e he hle => ?_⟩
      have hr := fin_rv _ _ _ he
      obtain ⟨m, hm⟩ := fin_hts' _ _ _ hr
      have hsz : (bs (rv (lt_ s))).size ≤ 24 := by rw [bs_size, rv_length, lt_length]; exact hc.1
      have : (phAns (bs (rv (lt_ s))) (e : Int) 24).2 = true := by
        unfold phAns
        rw [if_pos ⟨hsz, by omega, by omega⟩, Int.toNat_natCast, lt_bs, hm]
        rfl
      unfold revAns
      rw [if_pos this, lt_bs, rv_rv, bs_lt]
  · rw [if_neg hc] at h
    cases h
end Go.Proofs.Ytlodpobegdbhaaa.Pl

/- Part of the proof of the law FnPathCounts. -/
namespace Go.Proofs.Ytlodpobegdbhaaa.Pl
open Go.RowKit Go.Proofs.YtlodpobegdbhaaaW.PrintWords Go.Proofs.YtlodpobegdbhaaaW.PrintMore Go.Proofs.Ytlodpobegdbhaaa.X
set_option linter.unusedVariables false
set_option linter.unusedSimpArgs false
set_option maxRecDepth 20000
theorem bs_cons (c : UInt8) (y : List UInt8) : bs [c] ++ bs y = bs (c :: y) := by
  apply ByteArray.ext
  rw [ByteArray.data_append]
  simp [bs]
theorem rdOf_map (x : List (List UInt8)) {j : Nat} (h : j < x.length) : rdOf ByteArray.empty (x.map bs) (j : Int) = bs x[j] := by
  simp [rdOf, List.getD_eq_getElem?_getD, h]
def pre (c : UInt8) (x : List (List UInt8)) : List ByteArray := (x.map (c :: ·)).map bs
theorem paths_l1 (n k h : Int) (st : Nat) (c : UInt8) (hc : (⟨#[68, 76, 85]⟩ : ByteArray).extract st (st + 1) = bs [c]) (hst : st ≤ 2) (ls : List Int) (x : List (List UInt8)) (hx : ∀ y ∈ x, y.length ≤ 100) (hxl : x.length ≤ 400) : ∀ (d j K : Nat) (out : List ByteArray), j + d = x.length → out.length + d ≤ 2000 →
    impl_pathsOf.l1 (K + d + 1) n k h out st ls (ls.length : Int) st (x.map bs) ((x.map bs).length : Int) j = impl_pathsOf.l0 K n k h (out ++ pre c (x.drop j)) ls (ls.length : Int) ((st + 1 : Nat) : Int)
  | 0, j, K, out, hj, ho => by
    rw [impl_pathsOf.l1, if_neg (by rw [List.length_map]; omega), List.drop_eq_nil_of_le (by omega), wrap_id (by omega) (by omega)]
    simp [pre]
  | d + 1, j, K, out, hj, ho => by
    have hlt : j < x.length := by omega
    have hy := hx x[j] (List.getElem_mem hlt)
    rw [show K + (d + 1) + 1 = (K + d + 1) + 1 by omega]
    rw [impl_pathsOf.l1, if_pos (by rw [List.length_map]; omega), if_pos (by omega), if_pos (by rw [List.length_map]; omega), if_pos (by omega), wrap_id (x := (st : Int) + 1) (by omega) (by omega), if_pos (by omega), if_pos (by omega), rdOf_map x hlt, show ((st : Int)).toNat = st from rfl, show ((st : Int) + 1).toNat = st + 1 by omega, hc, if_pos (by rw [bs_size, bs_size]; simp; omega), if_pos (by omega), wrap_id (x := (j : Int) + 1) (by omega) (by omega), bs_cons, show ((j : Int) + 1) = ((j + 1 : Nat) : Int) by omega]
    have ih := paths_l1 n k h st c hc hst ls x hx hxl d (j + 1) K (out ++ [bs (c :: x[j])]) (by omega) (by simp; omega)
    rw [ih, List.drop_eq_getElem_cons hlt]
    simp only [pre, List.map_cons, List.append_assoc, List.singleton_append]
theorem PL_len {h k n i : Nat} : ∀ y ∈ PL h k n i, y.length = n := fun y hy => (PL_fin n i y hy).1
def PLi (h k n : Nat) (i : Int) : List (List UInt8) := if i < 0 then [] else PL h k n i.toNat
theorem PLi_nat (h k n i : Nat) : PLi h k n (i : Int) = PL h k n i := by unfold PLi; rw [if_neg (by omega)]; rfl
theorem PL_succ {h k n i : Nat} (hi : i ≤ h) (hk : k ≤ h) : PL h k (n + 1) i = ((PLi h k n ((i : Int) - 1)).map (68 :: ·) ++ (PL h k n i).map (76 :: ·)) ++ (PL h k n (i + 1)).map (85 :: ·) := by
  simp only [PL]
  rw [if_pos ⟨hi, hk⟩]
  congr 2
  unfold PLi
  by_cases h0 : 0 < i
  · rw [if_pos h0, if_neg (by omega), show ((i : Int) - 1).toNat = i - 1 by omega]
  · rw [if_neg h0, if_pos (by omega)]; rfl
theorem ex0 : (⟨#[68, 76, 85]⟩ : ByteArray).extract 0 (0 + 1) = bs [68] := by decide
theorem ex1 : (⟨#[68, 76, 85]⟩ : ByteArray).extract 1 (1 + 1) = bs [76] := by decide
theorem ex2 : (⟨#[68, 76, 85]⟩ : ByteArray).extract 2 (2 + 1) = bs [85] := by decide
theorem PLi_len {h k n : Nat} {i : Int} : ∀ y ∈ PLi h k n i, y.length = n := by
  unfold PLi
  split
  · intro y hy; cases hy
  · exact PL_len
theorem paths_neg (n i k h : Int) (K : Nat) (hi : i < 0) : impl_pathsOf.f (K + 2) n i k h = some [] := by
  rw [impl_pathsOf.f, if_pos hi, impl_pathsOf.j0, if_pos rfl]
theorem paths_start (h k : Nat) (hh : h ≤ 24) (hk : k ≤ 24) (n m K : Nat) (hn : n ≤ 24) (hm : m ≤ 60) (hK : 20000 ≤ K) : impl_pathsOf.f (K + 2) n m k h = if (PL h k n m).length = 0 then some [] else (if (n : Int) = 0 then (some (([(⟨#[]⟩ : ByteArray)] : List ByteArray))) else ((some (([wrap64 ((m : Int) - 1), (m : Int), wrap64 ((m : Int) + 1)] : List Int) : List Int)).bind fun y880 => (impl_pathsOf.l0 K n k h ([] : List ByteArray) y880 (y880.length : Int) 0))) := by
  rw [impl_pathsOf.f, if_neg (by omega), countPaths_eq true n m k h hn (by omega) (by omega) (by omega) (K + 1) (by omega), Option.bind_some, countN_paths, impl_pathsOf.j0]
  by_cases hz : (PL h k n m).length = 0
  · rw [if_pos (by simp [hz]), if_pos hz]
  · rw [if_neg (by simpa using hz), if_neg hz]
theorem pathsOf_eq (h k : Nat) (hh : h ≤ 24) (hk : k ≤ 24) (n : Nat) : ∀ (i : Int) (K : Nat), n ≤ 24 → -1 ≤ i → i ≤ 60 → (PLi h k n i).length ≤ 400 → 2000 * (n + 1) + 20000 ≤ K → impl_pathsOf.f K n i k h = some ((PLi h k n i).map bs) := by
  induction n with
  | zero =>
    intro i K hn hi0 hi1 hl hK
    obtain ⟨K, rfl⟩ : ∃ q, K = q + 2 := ⟨K - 2, by omega⟩
    by_cases hneg : i < 0
    · rw [paths_neg _ _ _ _ _ hneg]
      unfold PLi
      rw [if_pos hneg]; rfl
    · obtain ⟨m, rfl⟩ : ∃ m : Nat, i = m := ⟨i.toNat, by omega⟩
      rw [PLi_nat, paths_start h k hh hk 0 m K hn (by omega) (by omega)]
      by_cases hc : m = k ∧ m ≤ h
      · have h1 : PL h k 0 m = [[]] := by simp only [PL]; rw [if_pos hc]
        rw [h1, if_neg (by simp), if_pos (show ((0 : Nat) : Int) = 0 from rfl)]; rfl
      · have h1 : PL h k 0 m = [] := by simp only [PL]; rw [if_neg hc]
        rw [h1, if_pos (show ([] : List (List UInt8)).length = 0 from rfl)]; rfl
  | succ n ih =>
    intro i K hn hi0 hi1 hl hK
    obtain ⟨K, rfl⟩ : ∃ q, K = q + 2 := ⟨K - 2, by omega⟩
    by_cases hneg : i < 0
    · rw [paths_neg _ _ _ _ _ hneg]
      unfold PLi
      rw [if_pos hneg]; rfl
    · obtain ⟨m, rfl⟩ : ∃ m : Nat, i = m := ⟨i.toNat, by omega⟩
      rw [PLi_nat] at hl ⊢
      rw [paths_start h k hh hk (n + 1) m K hn (by omega) (by omega)]
      by_cases hz : (PL h k (n + 1) m).length = 0
      · rw [if_pos hz, List.length_eq_zero_iff.1 hz]; rfl
      · rw [if_neg hz]
        have hmh : m ≤ h ∧ k ≤ h := by
          apply Classical.byContradiction
          intro hc
          rw [PL_above (n + 1) m hc] at hz
          exact hz rfl
        rw [PL_succ hmh.1 hmh.2] at hl ⊢
        simp only [List.length_append, List.length_map] at hl
        rw [if_neg (by omega), Option.bind_some, wrap_id (x := (m : Int) - 1) (by omega) (by omega), wrap_id (x := (m : Int) + 1) (by omega) (by omega)]
        have hw : wrap64 (((n + 1 : Nat) : Int) - 1) = (n : Int) := by rw [wrap_id (by omega) (by omega)]; omega
        obtain ⟨q, rfl⟩ : ∃ q, K = q + 1 + 1 + (PL h k n (m + 1)).length + 1 + 1 + (PL h k n m).length + 1 + 1 + (PLi h k n ((m : Int) - 1)).length + 1 + 1 := ⟨K - (1 + 1 + (PL h k n (m + 1)).length + 1 + 1 + (PL h k n m).length + 1 + 1 + (PLi h k n ((m : Int) - 1)).length + 1 + 1), by omega⟩
        have p0 := ih ((m : Int) - 1) (q + 1 + 1 + (PL h k n (m + 1)).length + 1 + 1 + (PL h k n m).length + 1 + 1 + (PLi h k n ((m : Int) - 1)).length + 1) (by omega) (by omega) (by omega) (by omega) (by omega)
        have p1 := ih (m : Int) (q + 1 + 1 + (PL h k n (m + 1)).length + 1 + 1 + (PL h k n m).length + 1) (by omega) (by omega) (by omega) (by rw [PLi_nat]; omega) (by omega)
        have p2 := ih ((m + 1 : Nat) : Int) (q + 1 + 1 + (PL h k n (m + 1)).length + 1) (by omega) (by omega) (by omega) (by rw [PLi_nat]; omega) (by omega)
        rw [PLi_nat] at p1 p2
        have a0 := paths_l1 ((n + 1 : Nat) : Int) k h 0 68 ex0 (by omega) [(m : Int) - 1, (m : Int), ((m + 1 : Nat) : Int)] (PLi h k n ((m : Int) - 1)) (fun y hy => by rw [PLi_len y hy]; omega) (by omega) (PLi h k n ((m : Int) - 1)).length 0 (q + 1 + 1 + (PL h k n (m + 1)).length + 1 + 1 + (PL h k n m).length + 1 + 1) [] (by omega) (by simp; omega)
        have a1 := fun out ho => paths_l1 ((n + 1 : Nat) : Int) k h 1 76 ex1 (by omega) [(m : Int) - 1, (m : Int), ((m + 1 : Nat) : Int)] (PL h k n m) (fun y hy => by rw [PL_len y hy]; omega) (by omega) (PL h k n m).length 0 (q + 1 + 1 + (PL h k n (m + 1)).length + 1 + 1) out (by omega) ho
        have a2 := fun out ho => paths_l1 ((n + 1 : Nat) : Int) k h 2 85 ex2 (by omega) [(m : Int) - 1, (m : Int), ((m + 1 : Nat) : Int)] (PL h k n (m + 1)) (fun y hy => by rw [PL_len y hy]; omega) (by omega) (PL h k n (m + 1)).length 0 (q + 1 + 1) out (by omega) ho
        rw [show (((m : Nat) : Int) + 1) = ((m + 1 : Nat) : Int) by omega]
        rw [impl_pathsOf.l0, if_pos (by simp), if_pos (by omega), if_pos (by simp), hw, show rd [(m : Int) - 1, (m : Int), ((m + 1 : Nat) : Int)] 0 = (m : Int) - 1 from rfl, p0, Option.bind_some]
        rw [show ((0 : Nat) : Int) = 0 from rfl] at a0
        rw [a0, impl_pathsOf.l0, if_pos (by simp), if_pos (by omega), if_pos (by simp), hw, show rd [(m : Int) - 1, (m : Int), ((m + 1 : Nat) : Int)] ((0 + 1 : Nat) : Int) = (m : Int) from rfl, p1, Option.bind_some]
        rw [show ((1 : Nat) : Int) = ((0 + 1 : Nat) : Int) from rfl, show ((0 : Nat) : Int) = 0 from rfl] at a1
        rw [a1 _ (by simp [pre]; omega), impl_pathsOf.l0, if_pos (by simp), if_pos (by omega), if_pos (by simp), hw, show rd [(m : Int) - 1, (m : Int), ((m + 1 : Nat) : Int)] ((1 + 1 : Nat) : Int) = ((m + 1 : Nat) : Int) from rfl, p2, Option.bind_some]
        rw [show ((2 : Nat) : Int) = ((1 + 1 : Nat) : Int) from rfl, show ((0 : Nat) : Int) = 0 from rfl] at a2
        rw [a2 _ (by simp [pre]; omega), impl_pathsOf.l0, if_neg (by simp)]
        simp [pre]
end Go.Proofs.Ytlodpobegdbhaaa.Pl

/- Part of the proof of the law FnPathCounts. -/
namespace Go.Proofs.Ytlodpobegdbhaaa.Pl
open Go.RowKit Go.Proofs.YtlodpobegdbhaaaW.PrintWords Go.Proofs.YtlodpobegdbhaaaW.PrintMore Go.Proofs.Ytlodpobegdbhaaa.X
set_option linter.unusedVariables false
set_option linter.unusedSimpArgs false
set_option maxRecDepth 20000
theorem Paths_l1 (n i k h : Int) (st : Nat) (c : UInt8) (hst : st ≤ 2) (x : List (List UInt8)) (hx : ∀ y ∈ x, y.length ≤ 100) (hxl : x.length ≤ 400) : ∀ (d j K : Nat) (out : List ByteArray), j + d = x.length → out.length + d ≤ 2000 →
    spec_l09Paths.l1 (K + d + 1) n i k h out ((st : Int) - 1) (bs [c]) (x.map bs) j = spec_l09Paths.l0 K n i k h (out ++ pre c (x.drop j)) (st : Int)
  | 0, j, K, out, hj, ho => by
    rw [spec_l09Paths.l1, if_neg (by rw [List.length_map]; omega), List.drop_eq_nil_of_le (by omega), wrap_id (by omega) (by omega)]
    rw [show (st : Int) - 1 + 1 = (st : Int) by omega]
    simp [pre]
  | d + 1, j, K, out, hj, ho => by
    have hlt : j < x.length := by omega
    have hy := hx x[j] (List.getElem_mem hlt)
    rw [show K + (d + 1) + 1 = (K + d + 1) + 1 by omega]
    rw [spec_l09Paths.l1, if_pos (by rw [List.length_map]; omega), if_pos (by omega), rdOf_map x hlt, if_pos (by rw [bs_size, bs_size]; simp; omega), if_pos (by omega), wrap_id (x := (j : Int) + 1) (by omega) (by omega), bs_cons, show ((j : Int) + 1) = ((j + 1 : Nat) : Int) by omega]
    have ih := Paths_l1 n i k h st c hst x hx hxl d (j + 1) K (out ++ [bs (c :: x[j])]) (by omega) (by simp; omega)
    rw [ih, List.drop_eq_getElem_cons hlt]
    simp only [pre, List.map_cons, List.append_assoc, List.singleton_append]
theorem l09Paths_start (h k : Nat) (hh : h ≤ 24) (hk : k ≤ 24) (n m K : Nat) (hn : n ≤ 24) (hm : m ≤ 60) : spec_l09Paths.f (K + 2) n m k h = if m ≤ h ∧ k ≤ h ∧ m ≤ k + n ∧ k ≤ m + n then (if (n : Int) = 0 then (some (([(⟨#[]⟩ : ByteArray)] : List ByteArray))) else (spec_l09Paths.l0 K n m k h (([] : List ByteArray)) (-1))) else some [] := by
  rw [spec_l09Paths.f, wrap_id (x := (m : Int) - k) (by omega) (by omega), wrap_id (x := (k : Int) - m) (by omega) (by omega)]
  by_cases c1 : m ≤ h
  · rw [if_neg (by omega)]
    by_cases c2 : k ≤ h
    · rw [if_neg (by omega)]
      by_cases c3 : m ≤ k + n
      · rw [if_neg (by omega), spec_l09Paths.j0]
        by_cases c4 : k ≤ m + n
        · rw [if_neg (by simp; omega), if_pos (show m ≤ h ∧ k ≤ h ∧ m ≤ k + n ∧ k ≤ m + n from ⟨c1, c2, c3, c4⟩)]
        · rw [if_pos (by simp; omega), if_neg (show ¬ (m ≤ h ∧ k ≤ h ∧ m ≤ k + n ∧ k ≤ m + n) from fun hc => c4 hc.2.2.2)]
      · rw [if_pos (by omega), spec_l09Paths.j0, if_pos rfl, if_neg (show ¬ (m ≤ h ∧ k ≤ h ∧ m ≤ k + n ∧ k ≤ m + n) from fun hc => c3 hc.2.2.1)]
    · rw [if_pos (by omega), spec_l09Paths.j0, if_pos rfl, if_neg (show ¬ (m ≤ h ∧ k ≤ h ∧ m ≤ k + n ∧ k ≤ m + n) from fun hc => c2 hc.2.1)]
  · rw [if_pos (by omega), spec_l09Paths.j0, if_pos rfl, if_neg (show ¬ (m ≤ h ∧ k ≤ h ∧ m ≤ k + n ∧ k ≤ m + n) from fun hc => c1 hc.1)]
theorem let0 : rdOf ByteArray.empty [(⟨#[68]⟩ : ByteArray), (⟨#[76]⟩ : ByteArray), (⟨#[85]⟩ : ByteArray)] 0 = bs [68] := rfl
theorem let1 : rdOf ByteArray.empty [(⟨#[68]⟩ : ByteArray), (⟨#[76]⟩ : ByteArray), (⟨#[85]⟩ : ByteArray)] 1 = bs [76] := rfl
theorem let2 : rdOf ByteArray.empty [(⟨#[68]⟩ : ByteArray), (⟨#[76]⟩ : ByteArray), (⟨#[85]⟩ : ByteArray)] 2 = bs [85] := rfl
theorem l09Paths_eq (h k : Nat) (hh : h ≤ 24) (hk : k ≤ 24) (n : Nat) : ∀ (m : Nat) (K : Nat), n ≤ 24 → m ≤ 60 → (PL h k n m).length ≤ 400 → 2000 * (n + 1) + 20000 ≤ K → spec_l09Paths.f K n m k h = some ((PL h k n m).map bs) := by
  induction n with
  | zero =>
    intro m K hn hm hl hK
    obtain ⟨K, rfl⟩ : ∃ q, K = q + 2 := ⟨K - 2, by omega⟩
    rw [l09Paths_start h k hh hk 0 m K hn hm]
    by_cases hc : m = k ∧ m ≤ h
    · have h1 : PL h k 0 m = [[]] := by simp only [PL]; rw [if_pos hc]
      rw [h1, if_pos (by omega), if_pos (show ((0 : Nat) : Int) = 0 from rfl)]; rfl
    · have h1 : PL h k 0 m = [] := by simp only [PL]; rw [if_neg hc]
      rw [h1, if_neg (by omega)]; rfl
  | succ n ih =>
    intro m K hn hm hl hK
    obtain ⟨K, rfl⟩ : ∃ q, K = q + 2 := ⟨K - 2, by omega⟩
    rw [l09Paths_start h k hh hk (n + 1) m K hn hm]
    by_cases hc : m ≤ h ∧ k ≤ h ∧ m ≤ k + (n + 1) ∧ k ≤ m + (n + 1)
    · have hmh : m ≤ h ∧ k ≤ h := ⟨hc.1, hc.2.1⟩
      rw [PL_succ hmh.1 hmh.2] at hl ⊢
      simp only [List.length_append, List.length_map] at hl
      rw [if_pos hc, if_neg (by omega)]
      have hw : wrap64 (((n + 1 : Nat) : Int) - 1) = (n : Int) := by rw [wrap_id (by omega) (by omega)]; omega
      obtain ⟨q, rfl⟩ : ∃ q, K = q + 1 + 1 + (PL h k n (m + 1)).length + 1 + 1 + (PL h k n m).length + 1 + 1 + (PLi h k n ((m : Int) - 1)).length + 1 + 1 := ⟨K - (1 + 1 + (PL h k n (m + 1)).length + 1 + 1 + (PL h k n m).length + 1 + 1 + (PLi h k n ((m : Int) - 1)).length + 1 + 1), by omega⟩
      have p1 := fun K' hK' => ih m K' (by omega) (by omega) (by omega) hK'
      have p2 := fun K' hK' => ih (m + 1) K' (by omega) (by omega) (by omega) hK'
      have a0 := Paths_l1 ((n + 1 : Nat) : Int) m k h 0 68 (by omega) (PLi h k n ((m : Int) - 1)) (fun y hy => by rw [PLi_len y hy]; omega) (by omega) (PLi h k n ((m : Int) - 1)).length 0 (q + 1 + 1 + (PL h k n (m + 1)).length + 1 + 1 + (PL h k n m).length + 1 + 1) [] (by omega) (by simp; omega)
      have a1 := fun K' out ho => Paths_l1 ((n + 1 : Nat) : Int) m k h 1 76 (by omega) (PL h k n m) (fun y hy => by rw [PL_len y hy]; omega) (by omega) (PL h k n m).length 0 K' out (by omega) ho
      have a2 := fun K' out ho => Paths_l1 ((n + 1 : Nat) : Int) m k h 2 85 (by omega) (PL h k n (m + 1)) (fun y hy => by rw [PL_len y hy]; omega) (by omega) (PL h k n (m + 1)).length 0 K' out (by omega) ho
      have z0 : ((0 : Nat) : Int) = 0 := rfl
      have z1 : ((1 : Nat) : Int) - 1 = 0 := rfl
      have z2 : ((2 : Nat) : Int) - 1 = 1 := rfl
      have z3 : ((0 : Nat) : Int) - 1 = -1 := rfl
      rw [z3, z0] at a0
      have s0 : ∃ K', q + 1 + 1 + (PL h k n (m + 1)).length + 1 + 1 + (PL h k n m).length + 1 ≤ K' ∧ spec_l09Paths.l0 (q + 1 + 1 + (PL h k n (m + 1)).length + 1 + 1 + (PL h k n m).length + 1 + 1 + (PLi h k n ((m : Int) - 1)).length + 1 + 1) ((n + 1 : Nat) : Int) m k h [] (-1) = spec_l09Paths.l0 (K' + 1) ((n + 1 : Nat) : Int) m k h (pre 68 (PLi h k n ((m : Int) - 1))) 0 := by
        rw [spec_l09Paths.l0, if_pos (by decide), wrap_id (x := (m : Int) + -1) (by omega) (by omega)]
        by_cases hm0 : (m : Int) + -1 < 0
        · rw [if_pos hm0]
          refine ⟨q + 1 + 1 + (PL h k n (m + 1)).length + 1 + 1 + (PL h k n m).length + 1 + 1 + (PLi h k n ((m : Int) - 1)).length, by omega, ?_⟩
          have : PLi h k n ((m : Int) - 1) = [] := by unfold PLi; rw [if_pos (by omega)]
          rw [this, show wrap64 (-1 + 1) = 0 by rw [wrap_id (by omega) (by omega)]; rfl]
          rfl
        · rw [if_neg hm0, Option.bind_some, show wrap64 (-1 + 1) = 0 by rw [wrap_id (by omega) (by omega)]; rfl, if_pos (by decide), if_pos (by simp), hw, let0]
          obtain ⟨m', rfl⟩ : ∃ m', m = m' + 1 := ⟨m - 1, by omega⟩
          have e1 : (((m' + 1 : Nat) : Int) + -1) = (m' : Int) := by omega
          have e2 : (((m' + 1 : Nat) : Int) - 1) = (m' : Int) := by omega
          rw [e2, PLi_nat] at a0 hl hK ⊢
          rw [e1, ih m' _ (by omega) (by omega) (by omega) (by omega), Option.bind_some, a0]
          exact ⟨_, Nat.le_refl _, by simp⟩
      obtain ⟨K1, hK1, s0⟩ := s0
      rw [s0]
      obtain ⟨K2, rfl⟩ : ∃ K2, K1 = K2 + 1 + 1 + (PL h k n (m + 1)).length + 1 + 1 + (PL h k n m).length + 1 := ⟨K1 - (1 + 1 + (PL h k n (m + 1)).length + 1 + 1 + (PL h k n m).length + 1), by omega⟩
      rw [spec_l09Paths.l0, if_pos (by decide), wrap_id (x := (m : Int) + 0) (by omega) (by omega), if_neg (by omega), Option.bind_some, show wrap64 (0 + 1) = 1 by rw [wrap_id (by omega) (by omega)]; rfl, if_pos (by decide), if_pos (by simp), hw, let1, show (m : Int) + 0 = (m : Int) by omega, p1 _ (by omega), Option.bind_some]
      rw [z1, z0] at a1
      rw [a1 _ _ (by simp [pre]; omega)]
      rw [show ((1 : Nat) : Int) = 1 from rfl, spec_l09Paths.l0, if_pos (by decide), wrap_id (x := (m : Int) + 1) (by omega) (by omega), if_neg (by omega), Option.bind_some, show wrap64 (1 + 1) = 2 by rw [wrap_id (by omega) (by omega)]; rfl, if_pos (by decide), if_pos (by simp), hw, let2, show (m : Int) + 1 = ((m + 1 : Nat) : Int) by omega, p2 _ (by omega), Option.bind_some]
      rw [z2, z0] at a2
      rw [a2 _ _ (by simp [pre]; omega)]
      rw [show ((2 : Nat) : Int) = 2 from rfl, spec_l09Paths.l0, if_neg (by decide)]
      simp [pre]
    · have h1 : PL h k (n + 1) m = [] := by
        by_cases c1 : m ≤ h ∧ k ≤ h
        · exact PL_far (n + 1) m (by omega)
        · exact PL_above (n + 1) m c1
      rw [h1, if_neg hc]; rfl
end Go.Proofs.Ytlodpobegdbhaaa.Pl
