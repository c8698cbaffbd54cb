/- Part of the proof of the law FnExactInverseTriangle. -/
import Derived.Test.YtaclapojgdekpaaCInverseTrianglePlBase
import Derived.Test.YtaclapojgdekpaaCInverseTrianglePlJac
import Derived.Test.YtaclapojgdekpaaCInverseTrianglePlStep
import Derived.Test.YtaclapojgdekpaaCInverseTriangleX17
import Derived.Test.YtaclapojgdekpaaCInverseTriangleX19
import Derived.Test.YtaclapojgdekpaaCInverseTriangleX20
import Derived.Test.YtaclapojgdekpaaCInverseTriangleX21
import Derived.Test.YtaclapojgdekpaaCInverseTriangleX3
namespace Go.Proofs.Ytaclapojgdekpaa.Pl
open Go.RowKit Go.Proofs.YtaclapojgdekpaaW.PrintWords Go.Proofs.YtaclapojgdekpaaW.PrintMore Go.Proofs.Ytaclapojgdekpaa.X
set_option linter.unusedVariables false
set_option linter.unusedSimpArgs false

def mix (T X : List Int) (i : Nat) : List Int := T.take i ++ X.drop i
theorem mix_length {T X : List Int} {i : Nat} (h : T.length = X.length) : (mix T X i).length = T.length := by
  simp only [mix, List.length_append, List.length_take, List.length_drop]; omega
theorem mix_zero (T X : List Int) : mix T X 0 = X := by simp [mix]
theorem mix_get {T X : List Int} {i : Nat} (h : T.length = X.length) {j : Nat} (hj : j < (mix T X i).length) : (mix T X i)[j] = if j < i then T[j]'(by rw [mix_length h] at hj; exact hj) else X[j]'(by rw [mix_length h] at hj; omega) := by
  have hj' := hj
  rw [mix_length h] at hj'
  simp only [mix, List.getElem_append, List.length_take, List.getElem_take, List.getElem_drop]
  by_cases hji : j < i
  · rw [dif_pos (by omega), if_pos hji]
  · rw [dif_neg (by omega), if_neg hji]
    congr 1
    omega
theorem mix_set {T X : List Int} {i : Nat} (h : T.length = X.length) (hi : i < T.length) {t : Int} (ht : t = T[i]) : (mix T X i).set i t = mix T X (i + 1) := by
  apply List.ext_getElem
  · rw [List.length_set, mix_length h, mix_length h]
  · intro j h1 h2
    rw [List.length_set, mix_length h] at h1
    rw [List.getElem_set, mix_get h, mix_get h]
    by_cases hij : i = j
    · subst hij
      rw [if_pos rfl, if_pos (by omega), ht]
    · rw [if_neg hij]
      by_cases hji : j < i
      · rw [if_pos hji, if_pos (by omega)]
      · rw [if_neg hji, if_neg (by omega)]
theorem mix_rd {T X : List Int} {i : Nat} (h : T.length = X.length) (hi : i < T.length) : rd (mix T X i) (i : Int) = X[i]'(by omega) := by
  rw [rd_nat (by rw [mix_length h]; exact hi), mix_get h, if_neg (by omega)]
theorem mix_same {T X : List Int} {i : Nat} (h : T.length = X.length) (hs : ∀ (j : Nat) (h1 : j < T.length) (h2 : j < X.length), i ≤ j → T[j] = X[j]) : mix T X i = T := by
  apply List.ext_getElem
  · rw [mix_length h]
  · intro j h1 h2
    rw [mix_get h]
    split
    · rfl
    · exact (hs j h2 (by omega) (by omega)).symm

def tr (f : List Int) : List Int := (f.reverse.dropWhile (· == 0)).reverse
theorem tr_zero (f : List Int) : tr (f ++ [0]) = tr f := by simp [tr]
theorem tr_ne (f : List Int) {x : Int} (h : x ≠ 0) : tr (f ++ [x]) = f ++ [x] := by simp [tr, h]
theorem snoc_cases (f : List Int) : f = [] ∨ ∃ g x, f = g ++ [x] := by
  rcases List.eq_nil_or_concat f with h | ⟨g, x, h⟩
  · exact .inl h
  · exact .inr ⟨g, x, by simpa using h⟩
theorem tr_ind {P : List Int → Prop} (h0 : P []) (h1 : ∀ g, P g → P (g ++ [0])) (h2 : ∀ g x, x ≠ 0 → P (g ++ [x])) : ∀ (n : Nat) (f : List Int), f.length = n → P f
  | 0, f, h => by rw [List.length_eq_zero_iff.1 h]; exact h0
  | n + 1, f, h => by
    rcases snoc_cases f with rfl | ⟨g, x, rfl⟩
    · simp at h
    · by_cases hx : x = 0
      · subst hx; exact h1 g (tr_ind h0 h1 h2 n g (by simpa using h))
      · exact h2 g x hx
theorem tr_length (f : List Int) : (tr f).length ≤ f.length := by
  refine tr_ind (P := fun f => (tr f).length ≤ f.length) (by simp [tr]) (fun g h => ?_) (fun g x hx => ?_) _ f rfl
  · rw [tr_zero, List.length_append]; omega
  · rw [tr_ne _ hx]; omega
theorem tr_mem (f : List Int) : ∀ x ∈ tr f, x ∈ f := by
  refine tr_ind (P := fun f => ∀ x ∈ tr f, x ∈ f) (by simp [tr]) (fun g h => ?_) (fun g x hx => ?_) _ f rfl
  · rw [tr_zero]; intro x hx; exact List.mem_append_left _ (h x hx)
  · rw [tr_ne _ hx]; exact fun y hy => hy
theorem tr_InL {lo hi : Int} {f : List Int} (h : InL lo hi f) : InL lo hi (tr f) := fun x hx => h x (tr_mem f x hx)
theorem rd_snoc (g : List Int) (x : Int) : rd (g ++ [x]) (g.length : Int) = x := by simp [rd]
theorem trimmed_l0 : ∀ (n : Nat) (f : List Int) (k : Nat), f.length = n → n < k → n ≤ 35184372088832 → impl_trimmed.l0 k f = some (tr f)
  | 0, f, k, h, hk, hn => by
    obtain ⟨k, rfl⟩ : ∃ m, k = m + 1 := ⟨k - 1, by omega⟩
    rw [List.length_eq_zero_iff.1 h]; simp [impl_trimmed.l0, tr]
  | n + 1, f, k, h, hk, hn => by
    obtain ⟨k, rfl⟩ : ∃ m, k = m + 1 := ⟨k - 1, by omega⟩
    rcases snoc_cases f with rfl | ⟨g, x, rfl⟩
    · simp at h
    · have hg : g.length = n := by simpa using h
      have hl : ((g ++ [x]).length : Int) = g.length + 1 := by simp
      simp only [impl_trimmed.l0]
      rw [hl, if_pos (by omega), wrap_id (by omega) (by omega), if_pos (by omega), if_pos (by omega), show ((g.length : Int) + 1 - 1) = g.length by omega, rd_snoc]
      by_cases hx : x = 0
      · subst hx
        have e : List.take ((g.length : Int)).toNat (g ++ [(0 : Int)]) = g := by simp
        rw [if_pos rfl, if_pos (by omega), e, tr_zero]
        exact trimmed_l0 n g k hg (by omega) (by omega)
      · rw [if_neg hx, tr_ne _ hx]
theorem trimmed_eq (f : List Int) (k : Nat) (hk : f.length < k) (hn : f.length ≤ 1000000) : impl_trimmed.f k f = some (tr f) := trimmed_l0 _ f k rfl hk (by omega)
theorem Own_eq (f : List Int) (hn : f.length ≤ 10000000) : spec_l01Own.f f = some f := by
  unfold spec_l01Own.f
  simp only [Option.bind_some, List.length_nil, List.nil_append]
  rw [if_pos (by omega)]
theorem Trim_l0 (f : List Int) (hf : f.length ≤ 1000000) : ∀ (n : Nat) (k : Nat), n ≤ f.length → n < k → spec_l01Trim.l0 k f n = some (tr (f.take n))
  | 0, k, h, hk => by
    obtain ⟨k, rfl⟩ : ∃ m, k = m + 1 := ⟨k - 1, by omega⟩
    simp only [spec_l01Trim.l0]
    rw [if_neg (by omega), if_pos (by omega), if_pos (by omega)]
    simp [Own_eq, tr]
  | n + 1, k, h, hk => by
    obtain ⟨k, rfl⟩ : ∃ m, k = m + 1 := ⟨k - 1, by omega⟩
    have hn : n < f.length := by omega
    have ht : f.take (n + 1) = f.take n ++ [f[n]] := by rw [List.take_succ_eq_append_getElem hn]
    simp only [spec_l01Trim.l0]
    rw [if_pos (by omega), wrap_id (by omega) (by omega), show (((n + 1 : Nat) : Int) - 1) = (n : Int) by omega, if_pos (by omega), if_pos (by omega), rd_nat hn]
    by_cases hx : f[n] = 0
    · rw [if_pos hx, ht, hx, tr_zero]
      exact Trim_l0 f hf n k (by omega) (by omega)
    · rw [if_neg hx, if_pos (by omega), if_pos (by omega), show (((n + 1 : Nat) : Int)).toNat = n + 1 from rfl, Own_eq _ (by rw [List.length_take]; omega), ht, tr_ne _ hx]
      rfl
theorem Trim_eq (f : List Int) (k : Nat) (hk : f.length < k) (hf : f.length ≤ 1000000) : spec_l01Trim.f k f = some (tr f) := by
  unfold spec_l01Trim.f
  rw [Trim_l0 f hf f.length k (Nat.le_refl _) hk, List.take_length]

def pad (f : List Int) (n : Nat) : List Int := f ++ List.replicate (n - f.length) 0
theorem pad_length {f : List Int} {n : Nat} (h : f.length ≤ n) : (pad f n).length = n := by simp [pad]; omega
theorem pad_InL {lo hi : Int} {f : List Int} {n : Nat} (h : InL lo hi f) (h0 : lo ≤ 0) (h1 : 0 ≤ hi) : InL lo hi (pad f n) := by
  intro x hx
  rcases List.mem_append.1 hx with h2 | h2
  · exact h x h2
  · rw [List.eq_of_mem_replicate h2]; exact ⟨h0, h1⟩
def addU (p : Int) (f g : List Int) (k : Int) : List Int :=
  (List.range (max f.length g.length)).map fun i => if i < g.length then (rd (pad f (max f.length g.length)) i + k * rd g i) % p else rd (pad f (max f.length g.length)) i
theorem addU_length (p : Int) (f g : List Int) (k : Int) : (addU p f g k).length = max f.length g.length := by simp [addU]
theorem addU_get {p : Int} {f g : List Int} {k : Int} {i : Nat} (h : i < (addU p f g k).length) : (addU p f g k)[i] = if i < g.length then (rd (pad f (max f.length g.length)) i + k * rd g i) % p else rd (pad f (max f.length g.length)) i := by simp [addU]
def addL (p : Int) (f g : List Int) (k : Int) : List Int := tr (addU p f g k)
theorem max_int (m n : Nat) : mx (m : Int) (n : Int) = ((max m n : Nat) : Int) := by unfold mx; split <;> omega
theorem addU_InL {p : Int} {f g : List Int} {k : Int} (hp : 0 < p) (hf : InL 0 (p - 1) f) : InL 0 (p - 1) (addU p f g k) := by
  intro x hx
  obtain ⟨i, hi, rfl⟩ := List.mem_iff_getElem.1 hx
  rw [addU_get]
  rw [addU_length] at hi
  split
  · have := mod_lt (p := p) (x := rd (pad f (max f.length g.length)) i + k * rd g i) hp; omega
  · exact InL_rd (pad_InL hf (by omega) (by omega)) (by rw [pad_length (by omega)]; omega)
theorem term_bound {p x k y : Int} (hp1 : p ≤ 10007) (hx0 : 0 ≤ x) (hx : x ≤ p - 1) (hk0 : 0 ≤ k) (hk : k ≤ p - 1) (hy0 : 0 ≤ y) (hy : y ≤ p - 1) : wrap64 (x + wrap64 (k * y)) = x + k * y := by
  have := prod_bound hk0 (by omega) hy0 (by omega)
  rw [wrap_mul hk0 (by omega) hy0 (by omega), wrap_id (by omega) (by omega)]
theorem add_l0 {p k : Int} {f g : List Int} (hp : 0 < p) (hp1 : p ≤ 10007) (hf : InL 0 (p - 1) f) (hg : InL 0 (p - 1) g) (hk0 : 0 ≤ k) (hk : k ≤ p - 1) (hfl : f.length ≤ 1000) (hgl : g.length ≤ 1000) :
    ∀ (d i K : Nat), i + d = g.length → d + 1002 < K → impl_field_add.l0 K p k (mix (addU p f g k) (pad f (max f.length g.length)) i) g (g.length : Int) i = some (addL p f g k)
  | 0, i, K, hd, hK => by
    obtain ⟨K, rfl⟩ : ∃ m, K = m + 1 := ⟨K - 1, by omega⟩
    simp only [impl_field_add.l0]
    rw [if_neg (by omega), mix_same (by rw [addU_length, pad_length (by omega)]) (fun j h1 h2 hij => ?_), trimmed_eq _ _ (by rw [addU_length]; omega) (by rw [addU_length]; omega)]
    · rfl
    · rw [addU_get, if_neg (by omega), rd_nat h2]
  | d + 1, i, K, hd, hK => by
    obtain ⟨K, rfl⟩ : ∃ m, K = m + 1 := ⟨K - 1, by omega⟩
    have hl : (addU p f g k).length = (pad f (max f.length g.length)).length := by rw [addU_length, pad_length (by omega)]
    have hi : i < (addU p f g k).length := by rw [addU_length]; omega
    have hx := InL_rd (pad_InL (n := max f.length g.length) hf (by omega) (by omega)) (i := i) (by rw [← hl]; exact hi)
    have hy := InL_rd hg (i := i) (by omega)
    simp only [impl_field_add.l0]
    rw [if_pos (by omega), if_pos (by omega), if_pos (by omega), if_pos (by rw [mix_length hl]; omega), mix_rd hl hi, ← rd_nat (by rw [← hl]; exact hi), term_bound hp1 hx.1 hx.2 hk0 hk hy.1 hy.2, fmod_eq p _ hp hp1, wrap_id (by omega) (by omega)]
    simp only [Option.bind_some]
    rw [show ((i : Int)).toNat = i from rfl, mix_set hl hi (by rw [addU_get, if_pos (by omega)])]
    exact add_l0 hp hp1 hf hg hk0 hk hfl hgl d (i + 1) K (by omega) (by omega)
theorem add_eq {p k : Int} {f g : List Int} (hp : 0 < p) (hp1 : p ≤ 10007) (hf : InL 0 (p - 1) f) (hg : InL 0 (p - 1) g) (hk0 : 0 ≤ k) (hk : k ≤ p - 1) (hfl : f.length ≤ 1000) (hgl : g.length ≤ 1000) (K : Nat) (hK : 3000 ≤ K) :
    impl_field_add.f K p f g k = some (addL p f g k) := by
  unfold impl_field_add.f
  rw [max_int, if_pos (by omega), if_pos (by omega)]
  simp only [Option.bind_some]
  have e : f.take (min f.length (List.replicate ((max f.length g.length : Nat) : Int).toNat (0 : Int)).length) ++ (List.replicate ((max f.length g.length : Nat) : Int).toNat (0 : Int)).drop (min f.length (List.replicate ((max f.length g.length : Nat) : Int).toNat (0 : Int)).length) = pad f (max f.length g.length) := by
    rw [List.length_replicate, show ((max f.length g.length : Nat) : Int).toNat = max f.length g.length from rfl, show min f.length (max f.length g.length) = f.length by omega, List.take_length, List.drop_replicate]
    rfl
  rw [e]
  have := add_l0 hp hp1 hf hg hk0 hk hfl hgl g.length 0 K (by omega) (by omega)
  rw [mix_zero] at this
  exact this
theorem Add_l1 {p k : Int} {f g : List Int} (hp : 0 < p) (hp1 : p ≤ 10007) (hf : InL 0 (p - 1) f) (hg : InL 0 (p - 1) g) (hk0 : 0 ≤ k) (hk : k ≤ p - 1) (hfl : f.length ≤ 1000) (hgl : g.length ≤ 1000) :
    ∀ (d i K : Nat), i + d = g.length → d + 1002 < K → spec_l01Add.l1 K p g k (mix (addU p f g k) (pad f (max f.length g.length)) i) i = some (addL p f g k)
  | 0, i, K, hd, hK => by
    obtain ⟨K, rfl⟩ : ∃ m, K = m + 1 := ⟨K - 1, by omega⟩
    simp only [spec_l01Add.l1]
    rw [if_neg (by omega), mix_same (by rw [addU_length, pad_length (by omega)]) (fun j h1 h2 hij => ?_), Trim_eq _ _ (by rw [addU_length]; omega) (by rw [addU_length]; omega)]
    · rfl
    · rw [addU_get, if_neg (by omega), rd_nat h2]
  | d + 1, i, K, hd, hK => by
    obtain ⟨K, rfl⟩ : ∃ m, K = m + 1 := ⟨K - 1, by omega⟩
    have hl : (addU p f g k).length = (pad f (max f.length g.length)).length := by rw [addU_length, pad_length (by omega)]
    have hi : i < (addU p f g k).length := by rw [addU_length]; omega
    have hx := InL_rd (pad_InL (n := max f.length g.length) hf (by omega) (by omega)) (i := i) (by rw [← hl]; exact hi)
    have hy := InL_rd hg (i := i) (by omega)
    simp only [spec_l01Add.l1]
    rw [if_pos (by omega), if_pos (by omega), if_pos (by rw [mix_length hl]; omega), mix_rd hl hi, ← rd_nat (by rw [← hl]; exact hi), term_bound hp1 hx.1 hx.2 hk0 hk hy.1 hy.2, l01Mod_eq p _ hp hp1, wrap_id (by omega) (by omega)]
    simp only [Option.bind_some]
    rw [show ((i : Int)).toNat = i from rfl, mix_set hl hi (by rw [addU_get, if_pos (by omega)])]
    exact Add_l1 hp hp1 hf hg hk0 hk hfl hgl d (i + 1) K (by omega) (by omega)
theorem Add_l0 {p k : Int} {f g : List Int} (hp : 0 < p) (hp1 : p ≤ 10007) (hf : InL 0 (p - 1) f) (hg : InL 0 (p - 1) g) (hk0 : 0 ≤ k) (hk : k ≤ p - 1) (hfl : f.length ≤ 1000) (hgl : g.length ≤ 1000) :
    ∀ (d i K : Nat), i + d = f.length → d + 2010 < K → spec_l01Add.l0 K p f g k (mix (pad f (max f.length g.length)) (List.replicate (max f.length g.length) 0) i) i = some (addL p f g k)
  | 0, i, K, hd, hK => by
    obtain ⟨K, rfl⟩ : ∃ m, K = m + 1 := ⟨K - 1, by omega⟩
    simp only [spec_l01Add.l0]
    rw [if_neg (by omega), mix_same (by rw [pad_length (by omega), List.length_replicate]) (fun j h1 h2 hij => ?_)]
    · have := Add_l1 hp hp1 hf hg hk0 hk hfl hgl g.length 0 K (by omega) (by omega)
      rw [mix_zero] at this
      exact this
    · simp only [pad, List.getElem_replicate]
      rw [List.getElem_append_right (by omega), List.getElem_replicate]
  | d + 1, i, K, hd, hK => by
    obtain ⟨K, rfl⟩ : ∃ m, K = m + 1 := ⟨K - 1, by omega⟩
    have hl : (pad f (max f.length g.length)).length = (List.replicate (max f.length g.length) (0 : Int)).length := by rw [pad_length (by omega), List.length_replicate]
    have hi : i < (pad f (max f.length g.length)).length := by rw [pad_length (by omega)]; omega
    simp only [spec_l01Add.l0]
    rw [if_pos (by omega), if_pos (by omega), if_pos (by rw [mix_length hl]; omega), wrap_id (by omega) (by omega), show ((i : Int)).toNat = i from rfl, mix_set hl hi (by rw [rd_nat (by omega)]; simp only [pad]; rw [List.getElem_append_left (by omega)])]
    exact Add_l0 hp hp1 hf hg hk0 hk hfl hgl d (i + 1) K (by omega) (by omega)
theorem Add_eq {p k : Int} {f g : List Int} (hp : 0 < p) (hp1 : p ≤ 10007) (hf : InL 0 (p - 1) f) (hg : InL 0 (p - 1) g) (hk0 : 0 ≤ k) (hk : k ≤ p - 1) (hfl : f.length ≤ 1000) (hgl : g.length ≤ 1000) (K : Nat) (hK : 4000 ≤ K) :
    spec_l01Add.f K p f g k = some (addL p f g k) := by
  unfold spec_l01Add.f
  rw [max_int, if_pos (by omega), if_pos (by omega), show ((max f.length g.length : Nat) : Int).toNat = max f.length g.length from rfl]
  have := Add_l0 hp hp1 hf hg hk0 hk hfl hgl f.length 0 K (by omega) (by omega)
  rw [mix_zero] at this
  exact this
end Go.Proofs.Ytaclapojgdekpaa.Pl
