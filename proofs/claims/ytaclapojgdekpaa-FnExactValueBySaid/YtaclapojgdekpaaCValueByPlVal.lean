/- Part of the proof of the law FnExactValueBy. -/
import Derived.Test.YtaclapojgdekpaaCValueByPlBase
import Derived.Test.YtaclapojgdekpaaCValueByPlExp
import Derived.Test.YtaclapojgdekpaaCValueByPlJac
import Derived.Test.YtaclapojgdekpaaCValueByPlMul
import Derived.Test.YtaclapojgdekpaaCValueByPlPoly
import Derived.Test.YtaclapojgdekpaaCValueByPlRec
import Derived.Test.YtaclapojgdekpaaCValueByPlStep
import Derived.Test.YtaclapojgdekpaaCValueByX31
import Derived.Test.YtaclapojgdekpaaCValueByX34
import Derived.Test.YtaclapojgdekpaaCValueByX35
import Derived.Test.YtaclapojgdekpaaCValueByX5
namespace Go.Proofs.Ytaclapojgdekpaa.Pl
open Go.RowKit Go.Proofs.YtaclapojgdekpaaW.PrintWords Go.Proofs.YtaclapojgdekpaaW.PrintMore Go.Proofs.Ytaclapojgdekpaa.X
set_option linter.unusedVariables false
set_option linter.unusedSimpArgs false
def valL (p : Int) (f : List Int) (x : Int) : Int := f.foldr (fun c out => (out * x + c) % p) 0
theorem horner_bound {p x o c : Int} (hp1 : p ≤ 10007) (ho0 : 0 ≤ o) (ho : o ≤ p - 1) (hx0 : 0 ≤ x) (hx : x ≤ p - 1) (hc0 : 0 ≤ c) (hc : c ≤ p - 1) : wrap64 (wrap64 (o * x) + c) = o * x + c := by
  have := prod_bound ho0 (by omega) hx0 (by omega)
  rw [wrap_mul ho0 (by omega) hx0 (by omega), wrap_id (by omega) (by omega)]
theorem val_st {p x : Int} (hp : 0 < p) (hp1 : p ≤ 10007) (hx0 : 0 ≤ x) (hx : x ≤ p - 1) : ∀ f : List Int, InL 0 (p - 1) f → f.foldr (fun c out => impl_field_value.st p x out c) 0 = valL p f x ∧ 0 ≤ valL p f x ∧ valL p f x ≤ p - 1
  | [], _ => by simp [valL]; omega
  | c :: f, h => by
    obtain ⟨h1, h2, h3⟩ := val_st hp hp1 hx0 hx f (fun y hy => h y (List.mem_cons_of_mem _ hy))
    have hc := h c List.mem_cons_self
    have hv : valL p (c :: f) x = (valL p f x * x + c) % p := rfl
    have hm := mod_lt (p := p) (x := valL p f x * x + c) hp
    refine ⟨?_, by rw [hv]; omega, by rw [hv]; omega⟩
    rw [List.foldr_cons, h1, hv]
    unfold impl_field_value.st
    rw [horner_bound hp1 h2 h3 hx0 hx hc.1 hc.2, fmod_eq p _ hp hp1]
    rfl
theorem value_eq {p x : Int} {f : List Int} (hp : 0 < p) (hp1 : p ≤ 10007) (hx0 : 0 ≤ x) (hx : x ≤ p - 1) (hf : InL 0 (p - 1) f) : impl_field_value.f p f x = some (valL p f x) := by
  unfold impl_field_value.f
  by_cases h : f.length = 0
  · rw [if_pos h, List.eq_nil_of_length_eq_zero h]; rfl
  · rw [if_neg h, if_neg (by omega), List.foldl_reverse, (val_st hp hp1 hx0 hx f hf).1]
theorem At_l0 {p x : Int} {f : List Int} (hp : 0 < p) (hp1 : p ≤ 10007) (hx0 : 0 ≤ x) (hx : x ≤ p - 1) (hf : InL 0 (p - 1) f) (hfl : f.length ≤ 1000000) : ∀ (j K : Nat) (out : Int), j ≤ f.length → j < K → 0 ≤ out → out ≤ p - 1 → spec_l01At.l0 K p f x out ((j : Int) - 1) = some ((f.take j).foldr (fun c o => (o * x + c) % p) out)
  | 0, K, out, hj, hK, h0, h1 => by
    obtain ⟨K, rfl⟩ : ∃ m, K = m + 1 := ⟨K - 1, by omega⟩
    simp only [spec_l01At.l0]
    rw [if_neg (by omega)]
    rfl
  | j + 1, K, out, hj, hK, h0, h1 => by
    obtain ⟨K, rfl⟩ : ∃ m, K = m + 1 := ⟨K - 1, by omega⟩
    have hj' : j < f.length := by omega
    have hc := InL_rd hf hj'
    have hb := prod_bound h0 (by omega) hx0 (by omega)
    have hm := mod_lt (p := p) (x := out * x + rd f j) hp
    simp only [spec_l01At.l0]
    rw [show (((j + 1 : Nat) : Int) - 1) = (j : Int) by omega, if_pos (by omega), if_pos (by omega), if_pos (by omega), if_neg (by omega), horner_bound hp1 h0 h1 hx0 hx hc.1 hc.2, tmod_pos (by omega), wrap_id (x := (j : Int) - 1) (by omega) (by omega),
      At_l0 hp hp1 hx0 hx hf hfl j K _ (by omega) (by omega) (by omega) (by omega), List.take_succ_eq_append_getElem hj', List.foldr_append, List.foldr_cons, List.foldr_nil, rd_nat hj']
theorem At_eq {p x : Int} {f : List Int} (hp : 0 < p) (hp1 : p ≤ 10007) (hx0 : 0 ≤ x) (hx : x ≤ p - 1) (hf : InL 0 (p - 1) f) (hfl : f.length ≤ 1000000) (K : Nat) (hK : f.length < K) : spec_l01At.f K p f x = some (valL p f x) := by
  unfold spec_l01At.f
  rw [wrap_id (by omega) (by omega), At_l0 hp hp1 hx0 hx hf hfl f.length K 0 (Nat.le_refl _) hK (by omega) (by omega), List.take_length]
  rfl
noncomputable def valueAns (p : Int) (a b l : List Int) (x : Int) : Int × Int := if listCode p a b l 1 = 0 then if 0 ≤ x ∧ x ≤ p - 1 then (valL p (sumL p a b l 0 []) x, 0) else (0, 2) else (0, listCode p a b l 1)
theorem spec_ValueBy_eq (p : Int) (a b l : List Int) (x : Int) (hal : a.length ≤ 1048576) (hl : l.length ≤ 1048576) (K : Nat) (hK : 1400003 ≤ K) : spec_ValueBy.f K p a b l x = some (valueAns p a b l x) := by
  obtain ⟨K, rfl⟩ : ∃ m, K = m + 2 := ⟨K - 2, by omega⟩
  unfold spec_ValueBy.f valueAns
  rw [l10List_eq p a b l 1 (by omega) (by omega) hl _ (by omega)]
  simp only [Option.bind_some]
  by_cases h : listCode p a b l 1 = 0
  · obtain ⟨hj, hn, hi⟩ := listCode_zero h
    have ht := hj.top
    have hp := hj.prime.1
    have hp1 := hj.prime.2.1
    rw [if_pos h, if_pos h, h, wrap_id (x := p - 1) (by omega) (by omega), l01In_eq]
    simp only [Option.bind_some]
    by_cases hx : 0 ≤ x ∧ x ≤ p - 1
    · rw [decide_eq_true hx, if_pos hx]
      have hs := Sum_l0 hj hi (by omega) l.length 0 K [] (by omega) (nil_InL _ _) (by simp) (by omega)
      rw [show ((0 : Nat) : Int) = 0 from rfl, List.drop_zero] at hs
      obtain ⟨s1, s2⟩ := sumL_ok (a := a) (b := b) (show 1 < p by omega) l 0 [] (nil_InL 0 (p - 1))
      simp only [List.length_nil] at s2
      simp only [spec_ValueBy.j0, spec_ValueBy.j1, Bool.not_true, Bool.false_eq_true, if_false, if_true, spec_l10Sum.f]
      rw [hs]
      simp only [Option.bind_some]
      rw [At_eq (by omega) hp1 hx.1 hx.2 s1 (by omega) K (by omega)]
      rfl
    · rw [decide_eq_false hx, if_neg hx]
      simp [spec_ValueBy.j0, spec_ValueBy.j1]
  · rw [if_neg h, if_neg h]
    simp [spec_ValueBy.j0, spec_ValueBy.j1, h]
theorem ValueBy_eq (p : Int) (a b l : List Int) (x : Int) (hal : a.length ≤ 1048576) (hl : l.length ≤ 1048576) (K : Nat) (hK : 1400003 ≤ K) : impl_ValueBy.f K p a b l x = some (valueAns p a b l x) := by
  obtain ⟨K, rfl⟩ : ∃ m, K = m + 1 := ⟨K - 1, by omega⟩
  unfold impl_ValueBy.f valueAns impl_Jacobi_size.f impl_length_int64.f
  simp only [Option.bind_some]
  rw [wrap_id (x := (a.length : Int) + 1) (by omega) (by omega)]
  by_cases hjb : jacB p a b = true
  · have hj := jacB_iff.1 hjb
    have ht := hj.top
    have hp := hj.prime.1
    have hp1 := hj.prime.2.1
    rw [isList_eq hj _ (by omega)]
    simp only [Option.bind_some, impl_Jacobi_field.f, has_eq]
    have hlc : listCode p a b l 1 = if (l.length : Int) ≤ a.length + 1 ∧ (l.all fun x => decide (0 ≤ x ∧ x ≤ p - 1)) = true then 0 else 2 := by unfold listCode; rw [if_pos hjb]
    by_cases hc : (l.length : Int) ≤ a.length + 1 ∧ (l.all fun x => decide (0 ≤ x ∧ x ≤ p - 1)) = true
    · rw [if_pos hc] at hlc
      rw [decide_eq_true hc, if_pos rfl, jacobiCode_eq p a b _ _ (by omega), if_pos hjb, if_pos hlc]
      simp only [Option.bind_some]
      have hi := all_InL.1 hc.2
      by_cases hx : 0 ≤ x ∧ x ≤ p - 1
      · rw [decide_eq_true hx, if_pos hx, if_pos rfl]
        have hs := sum_l0 hj hi (by omega) l.length 0 K [] (by omega) (nil_InL _ _) (by simp) (by omega)
        rw [show ((0 : Nat) : Int) = 0 from rfl, List.drop_zero] at hs
        obtain ⟨s1, s2⟩ := sumL_ok (a := a) (b := b) (show 1 < p by omega) l 0 [] (nil_InL 0 (p - 1))
        simp only [impl_ValueBy.j0, impl_Jacobi_field.f, Option.bind_some, if_true, impl_field_sum.f]
        rw [polys_eq hj K (by omega)]
        simp only [Option.bind_some]
        rw [hs]
        simp only [Option.bind_some]
        rw [value_eq (by omega) hp1 hx.1 hx.2 s1]
        rfl
      · rw [decide_eq_false hx, if_neg hx]
        simp [impl_ValueBy.j0]
    · rw [if_neg hc] at hlc
      rw [decide_eq_false hc, if_neg (by decide), jacobiCode_eq p a b _ _ (by omega), if_pos hjb, hlc]
      simp [impl_ValueBy.j0]
  · have hlc : listCode p a b l 1 = 1 := by unfold listCode; rw [if_neg hjb]
    obtain ⟨c, hc⟩ := isList_some p a b l ((a.length : Int) + 1) (K + 1) (by omega)
    rw [hc, hlc]
    simp only [Option.bind_some, impl_Jacobi_field.f, has_eq]
    have hjf : jacB p a b = false := by simpa using hjb
    cases c
    · rw [if_neg (by decide), jacobiCode_eq p a b _ _ (by omega), if_neg hjb]
      simp [impl_ValueBy.j0]
    · rw [if_pos rfl, jacobiCode_eq p a b _ _ (by omega), if_neg hjb]
      simp [impl_ValueBy.j0]
end Go.Proofs.Ytaclapojgdekpaa.Pl
