/- Part of the proof of the law FnExactStepsOfJacobi. -/
import Derived.Test.YtaclapojgdekpaaCStepsOfJacobiX1
import Derived.Test.YtaclapojgdekpaaCStepsOfJacobiX10
import Derived.Test.YtaclapojgdekpaaCStepsOfJacobiX5
import Derived.Test.YtaclapojgdekpaaCStepsOfJacobiX9
namespace Go.Proofs.Ytaclapojgdekpaa.Pl
open Go.RowKit Go.Proofs.YtaclapojgdekpaaW.PrintWords Go.Proofs.Ytaclapojgdekpaa.X
set_option linter.unusedVariables false
set_option linter.unusedSimpArgs false

theorem wrap_id {x : Int} (h0 : -9223372036854775808 ≤ x) (h1 : x ≤ 9223372036854775807) : wrap64 x = x := by unfold wrap64; omega
theorem rd_nat {l : List Int} {i : Nat} (h : i < l.length) : rd l (i : Int) = l[i] := by
  simp [rd, List.getD_eq_getElem?_getD, List.getElem?_eq_getElem h]

theorem toInt64S_l0 (l : List Int) (hl : l.length ≤ 35184372088832) : ∀ (d k i : Nat) (x : List Int), x.length = l.length → x.take i = l.take i → i + d = l.length → d < k → laws_toInt64S.l0 k l x i = some l
  | 0, k, i, x, hx, ht, hd, hk => by
    obtain ⟨k, rfl⟩ : ∃ m, k = m + 1 := ⟨k - 1, by omega⟩
    simp only [laws_toInt64S.l0]
    rw [if_neg (by omega)]
    have h1 : x.take l.length = l.take l.length := by rw [← show i = l.length by omega]; exact ht
    rw [List.take_length, ← hx, List.take_length] at h1
    rw [h1]
  | d + 1, k, i, x, hx, ht, hd, hk => by
    obtain ⟨k, rfl⟩ : ∃ m, k = m + 1 := ⟨k - 1, by omega⟩
    simp only [laws_toInt64S.l0]
    have hi : i < l.length := by omega
    rw [if_pos (by omega), if_pos (by omega), if_pos (by omega), wrap_id (by omega) (by omega), rd_nat hi]
    have := toInt64S_l0 l hl d k (i + 1) (x.set i l[i]) (by simpa using hx) (by
      rw [List.take_succ_eq_append_getElem (by simpa [hx] using hi), List.take_succ_eq_append_getElem hi]
      congr 1
      · rw [List.take_set_of_le (by omega)]; exact ht
      · simp) (by omega) (by omega)
    simpa using this
theorem toInt64S_eq (l : List Int) (k : Nat) (hl : l.length ≤ 35184372088832) (hk : l.length < k) : laws_toInt64S.f k l = some l := by
  unfold laws_toInt64S.f
  rw [if_pos (by omega), if_pos (by omega)]
  have := toInt64S_l0 l hl l.length k 0 (List.replicate l.length 0) (by simp) (by simp) (by omega) hk
  simpa using this

theorem eqInt64S_l0 (a b : List Int) (hab : a.length = b.length) (hl : a.length ≤ 9223372036854775806) : ∀ (d k i : Nat), a.take i = b.take i → i + d = a.length → d < k → laws_eqInt64S.l0 k a b i = some (decide (a = b))
  | 0, k, i, ht, hd, hk => by
    obtain ⟨k, rfl⟩ : ∃ m, k = m + 1 := ⟨k - 1, by omega⟩
    simp only [laws_eqInt64S.l0]
    rw [if_neg (by omega)]
    have h1 : a = b := by
      have : i = a.length := by omega
      rw [this, List.take_length, hab, List.take_length] at ht
      exact ht
    simp [h1]
  | d + 1, k, i, ht, hd, hk => by
    obtain ⟨k, rfl⟩ : ∃ m, k = m + 1 := ⟨k - 1, by omega⟩
    simp only [laws_eqInt64S.l0]
    have hi : i < a.length := by omega
    rw [if_pos (by omega), if_pos (by omega), if_pos (by omega), wrap_id (by omega) (by omega), rd_nat hi, rd_nat (by omega)]
    by_cases h : a[i] = b[i]'(by omega)
    · rw [if_pos h]
      have := eqInt64S_l0 a b hab hl d k (i + 1) (by
        rw [List.take_succ_eq_append_getElem hi, List.take_succ_eq_append_getElem (show i < b.length by omega), ht, h]) (by omega) (by omega)
      simpa using this
    · rw [if_neg h]
      have hne : ¬ (a = b) := fun e => by subst e; exact h rfl
      simp [hne]
theorem eqInt64S_eq (a b : List Int) (k : Nat) (hl : a.length ≤ 9223372036854775806) (hk : a.length < k) : laws_eqInt64S.f k a b = some (decide (a = b)) := by
  unfold laws_eqInt64S.f
  by_cases h : (a.length : Int) = (b.length : Int)
  · rw [if_pos h]
    have := eqInt64S_l0 a b (by omega) hl a.length k 0 (by simp) (by omega) hk
    simpa using this
  · rw [if_neg h]
    have hne : ¬ (a = b) := fun e => by subst e; exact h rfl
    simp [hne]
theorem eqInt64S_refl (a : List Int) (k : Nat) (hl : a.length ≤ 9223372036854775806) (hk : a.length < k) : laws_eqInt64S.f k a a = some true := by
  rw [eqInt64S_eq a a k hl hk]; simp

def marks : Int → Nat → List Int
  | _, 0 => []
  | m, n + 1 => m :: marks (m + 1) n
theorem marks_length : ∀ (m : Int) (n : Nat), (marks m n).length = n
  | _, 0 => rfl
  | m, n + 1 => by simp [marks, marks_length (m + 1) n]
theorem marks_get : ∀ (n : Nat) (m : Int) (i : Nat) (h : i < (marks m n).length), (marks m n)[i] = m + i
  | 0, m, i, h => absurd h (by simp [marks])
  | n + 1, m, 0, h => by simp [marks]
  | n + 1, m, i + 1, h => by
    simp only [marks, List.getElem_cons_succ]
    rw [marks_get n (m + 1) i (by simpa [marks] using h)]; push_cast; omega
theorem marks_snoc (m : Int) : ∀ n : Nat, marks m (n + 1) = marks m n ++ [m + n] := fun n => by
  apply List.ext_getElem
  · simp [marks_length]
  · intro i h1 h2
    rw [marks_get]
    by_cases h : i < n
    · rw [List.getElem_append_left (by simpa [marks_length] using h), marks_get]
    · have : i = n := by simp [marks_length] at h1; omega
      subst this
      rw [List.getElem_append_right (by simp [marks_length])]
      simp [marks_length]
theorem markInt64S_l0 (n : Nat) (m : Int) (hm0 : 0 ≤ m) (hm : m + n ≤ 9223372036854775806) : ∀ (d k i : Nat) (x : List Int), x.length = n → x.take i = marks m i → i + d = n → d < k → laws_markInt64S.l0 k x (m + i) i = some (m + n, marks m n)
  | 0, k, i, x, hx, ht, hd, hk => by
    obtain ⟨k, rfl⟩ : ∃ m, k = m + 1 := ⟨k - 1, by omega⟩
    simp only [laws_markInt64S.l0]
    rw [if_neg (by omega)]
    have : i = n := by omega
    subst this
    rw [← hx, List.take_length] at ht
    rw [ht, hx]
  | d + 1, k, i, x, hx, ht, hd, hk => by
    obtain ⟨k, rfl⟩ : ∃ m, k = m + 1 := ⟨k - 1, by omega⟩
    simp only [laws_markInt64S.l0]
    have hi : i < x.length := by omega
    rw [if_pos (by omega), if_pos (by omega), wrap_id (by omega) (by omega), wrap_id (by omega) (by omega)]
    have := markInt64S_l0 n m hm0 hm d k (i + 1) (x.set i (m + i)) (by simpa using hx) (by
      rw [List.take_succ_eq_append_getElem (by simpa using hi), marks_snoc]
      congr 1
      · rw [List.take_set_of_le (by omega)]; exact ht
      · simp) (by omega) (by omega)
    simpa [Int.add_assoc] using this
theorem markInt64S_eq (l : List Int) (m : Int) (k : Nat) (hm0 : 0 ≤ m) (hm : m + l.length ≤ 9223372036854775806) (hk : l.length < k) : laws_markInt64S.f k l m = some (m + l.length, marks m l.length) := by
  unfold laws_markInt64S.f
  have := markInt64S_l0 l.length m hm0 hm l.length k 0 l rfl (by simp [marks]) (by omega) hk
  simpa using this
theorem heldInt64S_l0 (n : Nat) (m : Int) (hm0 : 0 ≤ m) (hm : m + n ≤ 9223372036854775806) : ∀ (d k i : Nat), i + d = n → d < k → laws_heldInt64S.l0 k (marks m n) (m + i) i = some (m + n)
  | 0, k, i, hd, hk => by
    obtain ⟨k, rfl⟩ : ∃ m, k = m + 1 := ⟨k - 1, by omega⟩
    simp only [laws_heldInt64S.l0]
    rw [if_neg (by rw [marks_length]; omega)]
    have : i = n := by omega
    subst this; rfl
  | d + 1, k, i, hd, hk => by
    obtain ⟨k, rfl⟩ : ∃ m, k = m + 1 := ⟨k - 1, by omega⟩
    simp only [laws_heldInt64S.l0]
    have hi : i < (marks m n).length := by rw [marks_length]; omega
    rw [if_pos (by omega), if_pos (by omega), rd_nat hi, marks_get, if_pos rfl, wrap_id (by omega) (by omega), wrap_id (by omega) (by omega)]
    have := heldInt64S_l0 n m hm0 hm d k (i + 1) (by omega) (by omega)
    simpa [Int.add_assoc] using this
theorem heldInt64S_eq (n : Nat) (m : Int) (k : Nat) (hm0 : 0 ≤ m) (hm : m + n ≤ 9223372036854775806) (hk : n < k) : laws_heldInt64S.f k (marks m n) m = some (m + n) := by
  unfold laws_heldInt64S.f
  have := heldInt64S_l0 n m hm0 hm n k 0 (by omega) hk
  simpa using this
theorem szInt64S_eq (l : List Int) (a : Int) (h0 : 0 ≤ a) (h1 : a ≤ 1048576) (hl : l.length ≤ 9223372036854775807) : laws_szInt64S.f l a = some (if (l.length : Int) ≤ a then a - l.length else -1) := by
  unfold laws_szInt64S.f
  by_cases h : (l.length : Int) ≤ a
  · rw [if_pos h, wrap_id (by omega) (by omega), if_neg (by omega)]
  · rw [if_neg h, wrap_id (by omega) (by omega), if_pos (by omega)]
end Go.Proofs.Ytaclapojgdekpaa.Pl
