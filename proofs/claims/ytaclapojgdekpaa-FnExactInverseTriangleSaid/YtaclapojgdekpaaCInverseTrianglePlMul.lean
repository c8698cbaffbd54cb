/- Part of the proof of the law FnExactInverseTriangle. -/
import Derived.Test.YtaclapojgdekpaaCInverseTrianglePlBase
import Derived.Test.YtaclapojgdekpaaCInverseTrianglePlJac
import Derived.Test.YtaclapojgdekpaaCInverseTrianglePlPoly
import Derived.Test.YtaclapojgdekpaaCInverseTrianglePlStep
import Derived.Test.YtaclapojgdekpaaCInverseTriangleX18
import Derived.Test.YtaclapojgdekpaaCInverseTriangleX21
namespace Go.Proofs.Ytaclapojgdekpaa.Pl
open Go.RowKit Go.Proofs.YtaclapojgdekpaaW.PrintWords Go.Proofs.YtaclapojgdekpaaW.PrintMore Go.Proofs.Ytaclapojgdekpaa.X
set_option linter.unusedVariables false
set_option linter.unusedSimpArgs false

theorem rd_cons_succ (y : Int) (g : List Int) (j : Nat) : rd (y :: g) ((j + 1 : Nat) : Int) = rd g (j : Int) := by simp [rd]
theorem rd_cons_zero (y : Int) (g : List Int) : rd (y :: g) ((0 : Nat) : Int) = y := by simp [rd]
theorem rd_out {l : List Int} {i : Nat} (h : l.length ≤ i) : rd l (i : Int) = 0 := by simp [rd, h]
theorem rd_replicate (n i : Nat) : rd (List.replicate n (0 : Int)) (i : Int) = 0 := by
  by_cases h : i < n
  · rw [rd_nat (by simpa using h)]; simp
  · exact rd_out (by simp; omega)
theorem rd_set {l : List Int} {n : Nat} {v : Int} (h : n < l.length) (m : Nat) : rd (l.set n v) (m : Int) = if m = n then v else rd l (m : Int) := by
  by_cases hm : m < l.length
  · rw [rd_nat (by simpa using hm), List.getElem_set, rd_nat hm]
    by_cases e : n = m
    · rw [if_pos e, if_pos e.symm]
    · rw [if_neg e, if_neg (fun x => e x.symm)]
  · rw [rd_out (by simpa using hm), rd_out (by omega), if_neg (by omega)]
theorem InL_set {lo hi : Int} {l : List Int} (h : InL lo hi l) {n : Nat} {v : Int} (h0 : lo ≤ v) (h1 : v ≤ hi) : InL lo hi (l.set n v) := by
  intro x hx
  rcases List.mem_or_eq_of_mem_set hx with h2 | h2
  · exact h x h2
  · rw [h2]; exact ⟨h0, h1⟩

def inn (p x : Int) : List Int → Nat → List Int → List Int
  | [], _, out => out
  | y :: g, n, out => inn p x g (n + 1) (out.set n ((rd out n + x * y) % p))
def mulF (p : Int) (g : List Int) : List Int → Nat → List Int → List Int
  | [], _, out => out
  | x :: f, n, out => mulF p g f (n + 1) (inn p x g n out)
def mulL (p : Int) (f g : List Int) : List Int := if f.length = 0 ∨ g.length = 0 then [] else tr (mulF p g f 0 (List.replicate (f.length + g.length - 1) 0))
theorem inn_length (p x : Int) : ∀ (g : List Int) (n : Nat) (out : List Int), (inn p x g n out).length = out.length
  | [], _, out => rfl
  | y :: g, n, out => by simp only [inn]; rw [inn_length p x g, List.length_set]
theorem inn_InL {p x : Int} (hp : 0 < p) : ∀ (g : List Int) (n : Nat) (out : List Int), InL 0 (p - 1) out → InL 0 (p - 1) (inn p x g n out)
  | [], _, out, h => h
  | y :: g, n, out, h => by
    have := mod_lt (p := p) (x := rd out n + x * y) hp
    exact inn_InL hp g (n + 1) _ (InL_set h (by omega) (by omega))
theorem inn_get (p x : Int) : ∀ (g : List Int) (n : Nat) (out : List Int) (m : Nat), n + g.length ≤ out.length → rd (inn p x g n out) (m : Int) = if n ≤ m ∧ m < n + g.length then (rd out (m : Int) + x * rd g ((m - n : Nat) : Int)) % p else rd out (m : Int)
  | [], n, out, m, h => by simp [inn]; omega
  | y :: g, n, out, m, h => by
    simp only [List.length_cons] at h
    simp only [inn]
    rw [inn_get p x g (n + 1) _ m (by rw [List.length_set]; omega), rd_set (by omega)]
    simp only [List.length_cons]
    by_cases hmn : m = n
    · subst hmn
      rw [if_neg (by omega), if_pos rfl, if_pos (by omega), show m - m = 0 by omega, rd_cons_zero]
    · rw [if_neg hmn]
      by_cases hc : n + 1 ≤ m ∧ m < n + 1 + g.length
      · rw [if_pos hc, if_pos (by omega), show m - n = (m - (n + 1)) + 1 by omega, rd_cons_succ]
      · rw [if_neg hc, if_neg (by omega)]
theorem mulF_length (p : Int) (g : List Int) : ∀ (f : List Int) (n : Nat) (out : List Int), (mulF p g f n out).length = out.length
  | [], _, out => rfl
  | x :: f, n, out => by simp only [mulF]; rw [mulF_length p g f, inn_length]
theorem mulF_InL {p : Int} (hp : 0 < p) (g : List Int) : ∀ (f : List Int) (n : Nat) (out : List Int), InL 0 (p - 1) out → InL 0 (p - 1) (mulF p g f n out)
  | [], _, out, h => h
  | x :: f, n, out, h => mulF_InL hp g f (n + 1) _ (inn_InL hp g n out h)
theorem zeros_InL {p : Int} (hp : 0 < p) (n : Nat) : InL 0 (p - 1) (List.replicate n 0) := by
  intro x hx; rw [List.eq_of_mem_replicate hx]; omega
theorem mulL_InL {p : Int} (hp : 0 < p) (f g : List Int) : InL 0 (p - 1) (mulL p f g) := by
  unfold mulL
  split
  · intro x hx; cases hx
  · exact tr_InL (mulF_InL hp g f 0 _ (zeros_InL hp _))
theorem mulL_length (p : Int) (f g : List Int) : (mulL p f g).length ≤ f.length + g.length - 1 := by
  unfold mulL
  split
  · simp
  · have := tr_length (mulF p g f 0 (List.replicate (f.length + g.length - 1) 0))
    rw [mulF_length, List.length_replicate] at this
    exact this
theorem tmod_pos {p x : Int} (hx : 0 ≤ x) : Int.tmod x p = x % p := Int.tmod_eq_emod_of_nonneg hx
theorem product_l1 {p x : Int} {f g : List Int} (hp : 0 < p) (hp1 : p ≤ 10007) (hg : InL 0 (p - 1) g) (hx0 : 0 ≤ x) (hx : x ≤ p - 1) (hfl : f.length ≤ 1000) (hgl : g.length ≤ 1000) (i : Nat) (hi : i < f.length) :
    ∀ (d j K F : Nat) (out : List Int), j + d = g.length → F = K + d + 1 → InL 0 (p - 1) out → out.length = f.length + g.length - 1 → impl_field_product.l1 F p g out i x f f.length i g g.length j = impl_field_product.l0 K p g (inn p x (g.drop j) (i + j) out) f f.length ((i + 1 : Nat) : Int)
  | 0, j, K, F, out, hd, hF, ho, hl => by
    subst hF
    simp only [impl_field_product.l1]
    rw [if_neg (by omega), wrap_id (by omega) (by omega), List.drop_eq_nil_of_le (by omega)]
    rfl
  | d + 1, j, K, F, out, hd, hF, ho, hl => by
    obtain ⟨F, rfl⟩ : ∃ m, F = m + 1 := ⟨F - 1, by omega⟩
    have hj : j < g.length := by omega
    have hy := InL_rd hg hj
    have ho1 := InL_rd ho (i := i + j) (by omega)
    have hm := mod_lt (p := p) (x := rd out ((i + j : Nat) : Int) + x * rd g j) hp
    simp only [impl_field_product.l1]
    rw [if_pos (by omega), if_pos (by omega), if_pos (by omega), wrap_id (x := (i : Int) + j) (by omega) (by omega), if_pos (by omega), if_pos (by omega), show ((i : Int) + j) = ((i + j : Nat) : Int) by omega, term_bound hp1 ho1.1 ho1.2 hx0 hx hy.1 hy.2, fmod_eq p _ hp hp1, wrap_id (by omega) (by omega)]
    simp only [Option.bind_some]
    have ih := product_l1 hp hp1 hg hx0 hx hfl hgl i hi d (j + 1) K F (out.set (i + j) ((rd out ((i + j : Nat) : Int) + x * rd g j) % p)) (by omega) (by omega) (InL_set ho (by omega) (by omega)) (by rw [List.length_set]; exact hl)
    rw [show ((j : Int) + 1) = ((j + 1 : Nat) : Int) by omega, show (((i + j : Nat) : Int)).toNat = i + j from rfl, ih, List.drop_eq_getElem_cons hj]
    simp only [inn]
    rw [← rd_nat hj]
    rfl
theorem product_l0 {p : Int} {f g : List Int} (hp : 0 < p) (hp1 : p ≤ 10007) (hf : InL 0 (p - 1) f) (hg : InL 0 (p - 1) g) (hfl : f.length ≤ 1000) (hgl : g.length ≤ 1000) :
    ∀ (d i K : Nat) (out : List Int), i + d = f.length → InL 0 (p - 1) out → out.length = f.length + g.length - 1 → d * (g.length + 2) + 2010 ≤ K → impl_field_product.l0 K p g out f f.length i = some (tr (mulF p g (f.drop i) i out))
  | 0, i, K, out, hd, ho, hl, hK => by
    obtain ⟨K, rfl⟩ : ∃ m, K = m + 1 := ⟨K - 1, by omega⟩
    simp only [impl_field_product.l0]
    rw [if_neg (by omega), trimmed_eq _ _ (by omega) (by omega), List.drop_eq_nil_of_le (by omega)]
    rfl
  | d + 1, i, K, out, hd, ho, hl, hK => by
    have e : (d + 1) * (g.length + 2) = d * (g.length + 2) + g.length + 2 := by rw [Nat.succ_mul]; omega
    obtain ⟨K, rfl⟩ : ∃ m, K = m + g.length + 1 + 1 := ⟨K - g.length - 2, by omega⟩
    have hi : i < f.length := by omega
    have hx := InL_rd hf hi
    simp only [impl_field_product.l0]
    rw [if_pos (by omega), if_pos (by omega), if_pos (by omega)]
    have := product_l1 hp hp1 hg hx.1 hx.2 hfl hgl i hi g.length 0 K (K + g.length + 1) out (by omega) rfl ho hl
    rw [show ((0 : Nat) : Int) = 0 from rfl] at this
    rw [this, product_l0 hp hp1 hf hg hfl hgl d (i + 1) K _ (by omega) (by exact inn_InL hp _ _ _ ho) (by rw [inn_length]; exact hl) (by omega), List.drop_eq_getElem_cons hi]
    simp only [mulF, List.drop_zero, Nat.add_zero]
    rw [← rd_nat hi]
theorem fuel_bound {f g : List Int} (hfl : f.length ≤ 1000) (hgl : g.length ≤ 1000) : f.length * (g.length + 2) ≤ 1002000 :=
  Nat.le_trans (Nat.mul_le_mul hfl (Nat.add_le_add_right hgl 2)) (by decide)
theorem product_eq {p : Int} {f g : List Int} (hp : 0 < p) (hp1 : p ≤ 10007) (hf : InL 0 (p - 1) f) (hg : InL 0 (p - 1) g) (hfl : f.length ≤ 1000) (hgl : g.length ≤ 1000) (K : Nat) (hK : 1100000 ≤ K) :
    impl_field_product.f K p f g = some (mulL p f g) := by
  obtain ⟨K, rfl⟩ : ∃ m, K = m + 1 := ⟨K - 1, by omega⟩
  have hb := fuel_bound hfl hgl
  unfold impl_field_product.f mulL
  by_cases h0 : f.length = 0
  · rw [if_pos (by omega), if_pos (.inl h0)]; simp [impl_field_product.j0]
  · rw [if_neg (by omega)]
    by_cases h1 : g.length = 0
    · rw [if_pos (.inr h1), show (((g.length : Int)) == 0) = true by simp [h1]]; simp [impl_field_product.j0]
    · rw [if_neg (by omega), show (((g.length : Int)) == 0) = false by rw [beq_eq_false_iff_ne]; omega]
      simp only [impl_field_product.j0]
      rw [if_neg (by decide), wrap_id (x := (f.length : Int) + g.length) (by omega) (by omega), wrap_id (by omega) (by omega), if_pos (by omega), if_pos (by omega), show ((f.length : Int) + g.length - 1).toNat = f.length + g.length - 1 by omega]
      have := product_l0 hp hp1 hf hg hfl hgl f.length 0 K (List.replicate (f.length + g.length - 1) 0) (by omega) (zeros_InL hp _) (by simp) (by omega)
      simpa using this
theorem Times_l1 {p : Int} {f g : List Int} (hp : 0 < p) (hp1 : p ≤ 10007) (hf : InL 0 (p - 1) f) (hg : InL 0 (p - 1) g) (hfl : f.length ≤ 1000) (hgl : g.length ≤ 1000) (i : Nat) (hi : i < f.length) :
    ∀ (d j K F : Nat) (out : List Int), j + d = g.length → F = K + d + 1 → InL 0 (p - 1) out → out.length = f.length + g.length - 1 → spec_l01Times.l1 F p f g out i j = spec_l01Times.l0 K p f g (inn p (rd f i) (g.drop j) (i + j) out) ((i + 1 : Nat) : Int)
  | 0, j, K, F, out, hd, hF, ho, hl => by
    subst hF
    simp only [spec_l01Times.l1]
    rw [if_neg (by omega), wrap_id (by omega) (by omega), List.drop_eq_nil_of_le (by omega)]
    rfl
  | d + 1, j, K, F, out, hd, hF, ho, hl => by
    obtain ⟨F, rfl⟩ : ∃ m, F = m + 1 := ⟨F - 1, by omega⟩
    have hj : j < g.length := by omega
    have hx := InL_rd hf hi
    have hy := InL_rd hg hj
    have ho1 := InL_rd ho (i := i + j) (by omega)
    have hm := mod_lt (p := p) (x := rd out ((i + j : Nat) : Int) + rd f i * rd g j) hp
    have hb := prod_bound hx.1 (by omega) hy.1 (by omega)
    simp only [spec_l01Times.l1]
    rw [if_pos (by omega), wrap_id (x := (i : Int) + j) (by omega) (by omega), if_pos (by omega), if_pos (by omega), if_pos (by omega), if_pos (by omega), if_pos (by omega), if_neg (by omega), show ((i : Int) + j) = ((i + j : Nat) : Int) by omega, term_bound hp1 ho1.1 ho1.2 hx.1 hx.2 hy.1 hy.2, tmod_pos (by omega), wrap_id (x := (j : Int) + 1) (by omega) (by omega)]
    have ih := Times_l1 hp hp1 hf hg hfl hgl i hi d (j + 1) K F (out.set (i + j) ((rd out ((i + j : Nat) : Int) + rd f i * rd g j) % p)) (by omega) (by omega) (InL_set ho (by omega) (by omega)) (by rw [List.length_set]; exact hl)
    rw [show ((j : Int) + 1) = ((j + 1 : Nat) : Int) by omega, show (((i + j : Nat) : Int)).toNat = i + j from rfl, ih, List.drop_eq_getElem_cons hj]
    simp only [inn]
    rw [← rd_nat hj]
    rfl
theorem Times_l0 {p : Int} {f g : List Int} (hp : 0 < p) (hp1 : p ≤ 10007) (hf : InL 0 (p - 1) f) (hg : InL 0 (p - 1) g) (hfl : f.length ≤ 1000) (hgl : g.length ≤ 1000) :
    ∀ (d i K : Nat) (out : List Int), i + d = f.length → InL 0 (p - 1) out → out.length = f.length + g.length - 1 → d * (g.length + 2) + 2010 ≤ K → spec_l01Times.l0 K p f g out i = some (tr (mulF p g (f.drop i) i out))
  | 0, i, K, out, hd, ho, hl, hK => by
    obtain ⟨K, rfl⟩ : ∃ m, K = m + 1 := ⟨K - 1, by omega⟩
    simp only [spec_l01Times.l0]
    rw [if_neg (by omega), Trim_eq _ _ (by omega) (by omega), List.drop_eq_nil_of_le (by omega)]
    rfl
  | d + 1, i, K, out, hd, ho, hl, hK => by
    have e : (d + 1) * (g.length + 2) = d * (g.length + 2) + g.length + 2 := by rw [Nat.succ_mul]; omega
    obtain ⟨K, rfl⟩ : ∃ m, K = m + g.length + 1 + 1 := ⟨K - g.length - 2, by omega⟩
    have hi : i < f.length := by omega
    simp only [spec_l01Times.l0]
    rw [if_pos (by omega)]
    have := Times_l1 hp hp1 hf hg hfl hgl i hi g.length 0 K (K + g.length + 1) out (by omega) rfl ho hl
    rw [show ((0 : Nat) : Int) = 0 from rfl] at this
    rw [this, Times_l0 hp hp1 hf hg hfl hgl d (i + 1) K _ (by omega) (by exact inn_InL hp _ _ _ ho) (by rw [inn_length]; exact hl) (by omega), List.drop_eq_getElem_cons hi]
    simp only [mulF, List.drop_zero, Nat.add_zero]
    rw [← rd_nat hi]
theorem Times_eq {p : Int} {f g : List Int} (hp : 0 < p) (hp1 : p ≤ 10007) (hf : InL 0 (p - 1) f) (hg : InL 0 (p - 1) g) (hfl : f.length ≤ 1000) (hgl : g.length ≤ 1000) (K : Nat) (hK : 1100000 ≤ K) :
    spec_l01Times.f K p f g = some (mulL p f g) := by
  obtain ⟨K, rfl⟩ : ∃ m, K = m + 1 := ⟨K - 1, by omega⟩
  have hb := fuel_bound hfl hgl
  unfold spec_l01Times.f mulL
  by_cases h0 : f.length = 0
  · rw [if_pos (by omega), if_pos (.inl h0)]; simp [spec_l01Times.j0]
  · rw [if_neg (by omega)]
    by_cases h1 : g.length = 0
    · rw [if_pos (.inr h1), show (((g.length : Int)) == 0) = true by simp [h1]]; simp [spec_l01Times.j0]
    · rw [if_neg (by omega), show (((g.length : Int)) == 0) = false by rw [beq_eq_false_iff_ne]; omega]
      simp only [spec_l01Times.j0]
      rw [if_neg (by decide), wrap_id (x := (f.length : Int) + g.length) (by omega) (by omega), wrap_id (by omega) (by omega), if_pos (by omega), if_pos (by omega), show ((f.length : Int) + g.length - 1).toNat = f.length + g.length - 1 by omega]
      have := Times_l0 hp hp1 hf hg hfl hgl f.length 0 K (List.replicate (f.length + g.length - 1) 0) (by omega) (zeros_InL hp _) (by simp) (by omega)
      simpa using this
end Go.Proofs.Ytaclapojgdekpaa.Pl
