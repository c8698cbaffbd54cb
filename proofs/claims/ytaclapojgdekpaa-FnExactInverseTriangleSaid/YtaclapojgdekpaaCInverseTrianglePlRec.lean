/- Part of the proof of the law FnExactInverseTriangle. -/
import Derived.Test.YtaclapojgdekpaaCInverseTrianglePlBase
import Derived.Test.YtaclapojgdekpaaCInverseTrianglePlJac
import Derived.Test.YtaclapojgdekpaaCInverseTrianglePlMul
import Derived.Test.YtaclapojgdekpaaCInverseTrianglePlPoly
import Derived.Test.YtaclapojgdekpaaCInverseTrianglePlStep
import Derived.Test.YtaclapojgdekpaaCInverseTriangleX19
import Derived.Test.YtaclapojgdekpaaCInverseTriangleX20
import Derived.Test.YtaclapojgdekpaaCInverseTriangleX21
import Derived.Test.YtaclapojgdekpaaCInverseTriangleX22
import Derived.Test.YtaclapojgdekpaaCInverseTriangleX5
namespace Go.Proofs.Ytaclapojgdekpaa.Pl
open Go.RowKit Go.Proofs.YtaclapojgdekpaaW.PrintWords Go.Proofs.YtaclapojgdekpaaW.PrintMore Go.Proofs.Ytaclapojgdekpaa.X
set_option linter.unusedVariables false
set_option linter.unusedSimpArgs false

theorem tr_full {l : List Int} {n : Nat} (h : l.length = n + 1) (hn : rd l (n : Int) ≠ 0) : tr l = l := by
  rcases snoc_cases l with rfl | ⟨g, x, rfl⟩
  · simp at h
  · have hg : g.length = n := by simpa using h
    rw [← hg, rd_snoc] at hn
    exact tr_ne g hn
structure MonP (p : Int) (k : Nat) (f : List Int) : Prop where
  len : f.length = k + 1
  last : rd f (k : Int) = 1
  inl : InL 0 (p - 1) f
theorem addU_rd {p : Int} {f g : List Int} {k : Int} {i : Nat} (h : i < max f.length g.length) : rd (addU p f g k) (i : Int) = if i < g.length then (rd (pad f (max f.length g.length)) i + k * rd g i) % p else rd (pad f (max f.length g.length)) i := by
  rw [rd_nat (by rw [addU_length]; exact h), addU_get]
theorem pad_rd {f : List Int} {n i : Nat} : rd (pad f n) (i : Int) = rd f (i : Int) := by
  by_cases h : i < f.length
  · rw [rd_nat h, rd_nat (by simp [pad]; omega)]; simp only [pad]; rw [List.getElem_append_left h]
  · rw [rd_out (l := f) (by omega)]
    by_cases h2 : i < (pad f n).length
    · rw [rd_nat h2]; simp only [pad]; rw [List.getElem_append_right (by omega), List.getElem_replicate]
    · exact rd_out (by omega)
theorem add_monic {p : Int} {k : Nat} {f b : List Int} {c : Int} (hp : 1 < p) (h : MonP p k f) (hb : b.length ≤ k) : MonP p k (addL p f b c) := by
  have hl : (addU p f b c).length = k + 1 := by rw [addU_length, h.len]; omega
  have hr : rd (addU p f b c) (k : Int) = 1 := by
    rw [addU_rd (by rw [h.len]; omega), if_neg (by omega), pad_rd, h.last]
  have e : addL p f b c = addU p f b c := tr_full hl (by rw [hr]; decide)
  rw [e]
  exact ⟨hl, hr, addU_InL (by omega) h.inl⟩
theorem mul_monic {p : Int} {k : Nat} {g : List Int} {c : Int} (hp : 1 < p) (h : MonP p k g) : MonP p (k + 1) (mulL p [c, 1] g) := by
  have hg := h.len
  have hl : (mulF p g [c, 1] 0 (List.replicate ([c, 1].length + g.length - 1) 0)).length = k + 1 + 1 := by
    rw [mulF_length, List.length_replicate, hg]; simp only [List.length_cons, List.length_nil]; omega
  have hr : rd (mulF p g [c, 1] 0 (List.replicate ([c, 1].length + g.length - 1) 0)) ((k + 1 : Nat) : Int) = 1 := by
    simp only [mulF]
    rw [inn_get _ _ _ _ _ _ (by rw [inn_length, List.length_replicate]; simp only [List.length_cons, List.length_nil]; omega), if_pos (by omega),
      inn_get _ _ _ _ _ _ (by rw [List.length_replicate]; simp only [List.length_cons, List.length_nil]; omega), if_neg (by omega), rd_replicate, show k + 1 - (0 + 1) = k by omega, h.last]
    have : (0 + 1 * 1 : Int) % p = 1 := by rw [show (0 + 1 * 1 : Int) = 1 from rfl]; exact Int.emod_eq_of_lt (by omega) hp
    exact this
  have e : mulL p [c, 1] g = mulF p g [c, 1] 0 (List.replicate ([c, 1].length + g.length - 1) 0) := by
    unfold mulL
    rw [if_neg (by rw [hg]; simp)]
    exact tr_full hl (by rw [hr]; decide)
  rw [e]
  exact ⟨hl, hr, mulF_InL (by omega) _ _ _ _ (zeros_InL (by omega) _)⟩
def stp (p : Int) (own before : List Int) (α β : Int) : List Int := addL p (mulL p [(-α) % p, 1] own) before ((-β) % p)
def polyS (p : Int) (a b : List Int) : Nat → List Int × List Int
  | 0 => ([], [1])
  | i + 1 => ((polyS p a b i).2, stp p (polyS p a b i).2 (polyS p a b i).1 (rd a i) (rd b i))
def PolL (p : Int) (a b : List Int) (i : Nat) : List Int := (polyS p a b i).2
theorem stp_monic {p α β : Int} {k : Nat} {own before : List Int} (hp : 1 < p) (h : MonP p k own) (hb : before.length ≤ k + 1) : MonP p (k + 1) (stp p own before α β) := add_monic hp (mul_monic hp h) (by omega)
theorem polyS_ok {p : Int} {a b : List Int} (hp : 1 < p) : ∀ i : Nat, MonP p i (polyS p a b i).2 ∧ (polyS p a b i).1.length ≤ i + 1 ∧ InL 0 (p - 1) (polyS p a b i).1
  | 0 => ⟨⟨rfl, rfl, fun x hx => by simp [polyS] at hx; omega⟩, by simp [polyS], fun x hx => by simp [polyS] at hx⟩
  | i + 1 => by
    obtain ⟨h1, h2, h3⟩ := polyS_ok (a := a) (b := b) hp i
    refine ⟨?_, ?_, ?_⟩
    · exact stp_monic hp h1 h2
    · simp only [polyS]; rw [h1.len]; omega
    · exact h1.inl
theorem PolL_ok {p : Int} {a b : List Int} (hp : 1 < p) (i : Nat) : MonP p i (PolL p a b i) := (polyS_ok hp i).1
theorem two_InL {p c : Int} (hp : 1 < p) (h0 : 0 ≤ c) (h1 : c < p) : InL 0 (p - 1) [c, 1] := by
  intro x hx
  rcases List.mem_cons.1 hx with rfl | hx
  · omega
  · rw [List.mem_singleton.1 hx]; omega
theorem next_eq {p α β : Int} {own before : List Int} (hp : 1 < p) (hp1 : p ≤ 10007) (ha0 : 0 ≤ α) (ha : α ≤ p) (hb0 : 0 ≤ β) (hb : β ≤ p) (ho : InL 0 (p - 1) own) (hbe : InL 0 (p - 1) before) (hol : own.length ≤ 900) (hbl : before.length ≤ 900) (K : Nat) (hK : 1100000 ≤ K) :
    impl_field_next.f K p α β own before = some (stp p own before α β) := by
  unfold impl_field_next.f
  rw [wrap_id (x := -α) (by omega) (by omega), wrap_id (x := -β) (by omega) (by omega), fmod_eq p _ (by omega) hp1, fmod_eq p _ (by omega) hp1]
  simp only [Option.bind_some]
  have h1 := mod_lt (p := p) (x := -α) (by omega)
  have h2 := mod_lt (p := p) (x := -β) (by omega)
  have hl := mulL_length p [(-α) % p, 1] own
  simp only [List.length_cons, List.length_nil] at hl
  rw [product_eq (by omega) hp1 (two_InL hp h1.1 h1.2) ho (by simp) (by omega) K hK]
  simp only [Option.bind_some]
  rw [add_eq (by omega) hp1 (mulL_InL (by omega) _ _) hbe h2.1 (by omega) (by omega) (by omega) K (by omega)]
  rfl
theorem Step_eq {p α β : Int} {own before : List Int} (hp : 1 < p) (hp1 : p ≤ 10007) (ha0 : 0 ≤ α) (ha : α ≤ p) (hb0 : 0 ≤ β) (hb : β ≤ p) (ho : InL 0 (p - 1) own) (hbe : InL 0 (p - 1) before) (hol : own.length ≤ 900) (hbl : before.length ≤ 900) (K : Nat) (hK : 1100000 ≤ K) :
    spec_l03Step.f K p own before α β = some (stp p own before α β) := by
  unfold spec_l03Step.f
  rw [wrap_id (x := -α) (by omega) (by omega), wrap_id (x := -β) (by omega) (by omega), l01Mod_eq p _ (by omega) hp1, l01Mod_eq p _ (by omega) hp1]
  simp only [Option.bind_some]
  have h1 := mod_lt (p := p) (x := -α) (by omega)
  have h2 := mod_lt (p := p) (x := -β) (by omega)
  have hl := mulL_length p [(-α) % p, 1] own
  simp only [List.length_cons, List.length_nil] at hl
  rw [Times_eq (by omega) hp1 (two_InL hp h1.1 h1.2) ho (by simp) (by omega) K hK]
  simp only [Option.bind_some]
  rw [Add_eq (by omega) hp1 (mulL_InL (by omega) _ _) hbe h2.1 (by omega) (by omega) (by omega) K (by omega)]
  rfl
def PolsL (p : Int) (a b : List Int) (n : Nat) : List (List Int) := (List.range n).map (PolL p a b)
theorem PolsL_succ (p : Int) (a b : List Int) (n : Nat) : PolsL p a b (n + 1) = PolsL p a b n ++ [PolL p a b n] := by simp [PolsL, List.range_succ]
theorem PolsL_length (p : Int) (a b : List Int) (n : Nat) : (PolsL p a b n).length = n := by simp [PolsL]
theorem PolsL_rd {p : Int} {a b : List Int} {n i : Nat} (h : i < n) : rd_L1 (PolsL p a b n) (i : Int) = PolL p a b i := by simp [rd_L1, PolsL, h]
theorem polys_l0 {p : Int} {a b : List Int} (h : JacP p a b) : ∀ (d i K : Nat), i + d = a.length → d + 1100000 < K →
    impl_Jacobi_polys.l0 K (PolsL p a b (i + 1)) (polyS p a b i).1 a a.length i p a b = some (PolsL p a b (a.length + 1))
  | 0, i, K, hd, hK => by
    obtain ⟨K, rfl⟩ : ∃ m, K = m + 1 := ⟨K - 1, by omega⟩
    simp only [impl_Jacobi_polys.l0]
    rw [if_neg (by omega), show i = a.length by omega]
  | d + 1, i, K, hd, hK => by
    obtain ⟨K, rfl⟩ : ∃ m, K = m + 1 := ⟨K - 1, by omega⟩
    have ht := h.top
    have hs := h.same
    have hp := h.prime.1
    have hp1 := h.prime.2.1
    obtain ⟨o1, o2, o3⟩ := polyS_ok (p := p) (a := a) (b := b) (by omega) i
    have ol := o1.len
    have hai := InL_rd h.ina (i := i) (by omega)
    have hbi := InL_rd h.inb (i := i) (by omega)
    simp only [impl_Jacobi_polys.l0]
    rw [if_pos (by omega), if_pos (by omega), if_pos (by omega), if_pos (by rw [PolsL_length]; omega)]
    simp only [impl_Jacobi_field.f, Option.bind_some]
    rw [if_pos (by omega), PolsL_rd (by omega), next_eq (own := PolL p a b i) (by omega) hp1 hai.1 (by omega) (by omega) (by omega) o1.inl o3 (show (PolL p a b i).length ≤ 900 by unfold PolL; omega) (by omega) K (by omega)]
    simp only [Option.bind_some]
    rw [if_pos (by rw [PolsL_length]; omega), wrap_id (by omega) (by omega)]
    have e : PolsL p a b (i + 1) ++ [stp p (PolL p a b i) (polyS p a b i).1 (rd a i) (rd b i)] = PolsL p a b (i + 1 + 1) := by rw [PolsL_succ p a b (i + 1)]; rfl
    rw [e]
    exact polys_l0 h d (i + 1) K (by omega) (by omega)
theorem polys_eq {p : Int} {a b : List Int} (h : JacP p a b) (K : Nat) (hK : 1200000 ≤ K) : impl_Jacobi_polys.f K p a b = some (PolsL p a b (a.length + 1)) := by
  have ht := h.top
  exact polys_l0 h a.length 0 K (by omega) (by omega)
theorem Poly_l0 {p : Int} {a b : List Int} (h : JacP p a b) (n : Nat) (hn : n ≤ a.length) : ∀ (d i K : Nat), i + d = n → d + 1100000 < K →
    spec_l03Poly.l0 K n (polyS p a b i).1 (polyS p a b i).2 i p a b = some (PolL p a b n)
  | 0, i, K, hd, hK => by
    obtain ⟨K, rfl⟩ : ∃ m, K = m + 1 := ⟨K - 1, by omega⟩
    simp only [spec_l03Poly.l0]
    rw [if_neg (by omega), show i = n by omega]; rfl
  | d + 1, i, K, hd, hK => by
    obtain ⟨K, rfl⟩ : ∃ m, K = m + 1 := ⟨K - 1, by omega⟩
    have ht := h.top
    have hs := h.same
    have hp := h.prime.1
    have hp1 := h.prime.2.1
    obtain ⟨o1, o2, o3⟩ := polyS_ok (p := p) (a := a) (b := b) (by omega) i
    have ol := o1.len
    have hai := InL_rd h.ina (i := i) (by omega)
    have hbi := InL_rd h.inb (i := i) (by omega)
    simp only [spec_l03Poly.l0]
    rw [if_pos (by omega), if_pos (by omega), if_pos (by omega), if_pos (by omega), Step_eq (by omega) hp1 hai.1 (by omega) (by omega) (by omega) o1.inl o3 (by omega) (by omega) K (by omega)]
    simp only [Option.bind_some]
    rw [wrap_id (by omega) (by omega)]
    exact Poly_l0 h n hn d (i + 1) K (by omega) (by omega)
theorem Poly_eq {p : Int} {a b : List Int} (h : JacP p a b) (n : Nat) (hn : n ≤ a.length) (K : Nat) (hK : 1200000 ≤ K) : spec_l03Poly.f K p a b n = some (PolL p a b n) := by
  have ht := h.top
  exact Poly_l0 h n hn n 0 K (by omega) (by omega)

end Go.Proofs.Ytaclapojgdekpaa.Pl
