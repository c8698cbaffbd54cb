/- Part of the proof of the law FnExactStepsOfJacobi. -/
import Derived.Test.YtaclapojgdekpaaCStepsOfJacobiPlBase
import Derived.Test.YtaclapojgdekpaaCStepsOfJacobiPlJLaw
import Derived.Test.YtaclapojgdekpaaCStepsOfJacobiPlJac
import Derived.Test.YtaclapojgdekpaaCStepsOfJacobiPlPoly
import Derived.Test.YtaclapojgdekpaaCStepsOfJacobiPlStep
import Derived.Test.YtaclapojgdekpaaCStepsOfJacobiX12
import Derived.Test.YtaclapojgdekpaaCStepsOfJacobiX14
import Derived.Test.YtaclapojgdekpaaCStepsOfJacobiX39
import Derived.Test.YtaclapojgdekpaaCStepsOfJacobiX40
import Derived.Test.YtaclapojgdekpaaCStepsOfJacobiX41
import Derived.Test.YtaclapojgdekpaaCStepsOfJacobiX42
import Derived.Test.YtaclapojgdekpaaCStepsOfJacobiX5
import Derived.Test.YtaclapojgdekpaaCStepsOfJacobiX7
import Derived.Test.YtaclapojgdekpaaCStepsOfJacobiXHMarkJs
namespace Go.Proofs.Ytaclapojgdekpaa.Pl
open Go.RowKit Go.Proofs.YtaclapojgdekpaaW.PrintWords Go.Proofs.Ytaclapojgdekpaa.X
set_option linter.unusedVariables false
set_option linter.unusedSimpArgs false
structure JacW (p : Int) (a b : List Int) : Prop where
  prime : primeP p
  one : 1 ≤ a.length
  top : a.length ≤ 12
  same : b.length = a.length
  ina : InL 0 (p - 1) a
  inb : InL 0 (p - 1) b
theorem JacP.weak {p : Int} {a b : List Int} (h : JacP p a b) : JacW p a b := ⟨h.prime, h.one, h.top, h.same, h.ina, fun x hx => by have := h.inb x hx; omega⟩
theorem stepW_l0 {p c : Int} {a b : List Int} (h : JacW p a b) (hc0 : 0 ≤ c) (hc : c < p) : ∀ (d k i : Nat) (e : Int) (xs ys : List Int), i + d + 1 = a.length → d + 60 < k → 0 ≤ e → e < p → xs.length ≤ i → ys.length ≤ i →
    impl_Jacobi_step.l0 k c p e ((a.length - 1 : Nat) : Int) i p a b p xs ys = some (match stepAt p c a b d i e with | none => (0, [], [], false) | some z => (p, xs ++ z.1, ys ++ z.2, true))
  | 0, k, i, e, xs, ys, hd, hk, he0, he, hx, hy => by
    obtain ⟨k, rfl⟩ : ∃ m, k = m + 1 := ⟨k - 1, by omega⟩
    simp only [impl_Jacobi_step.l0]
    rw [if_neg (by omega)]
    simp [stepAt]
  | d + 1, k, i, e, xs, ys, hd, hk, he0, he, hx, hy => by
    obtain ⟨k, rfl⟩ : ∃ m, k = m + 1 := ⟨k - 1, by omega⟩
    have hp := h.prime.1
    have hp1 := h.prime.2.1
    have ht := h.top
    have hs := h.same
    have hai := InL_rd h.ina (i := i) (by omega)
    have hbi := InL_rd h.inb (i := i + 1) (by omega)
    have hb0 := InL_rd h.inb (i := 0) (by omega)
    simp only [impl_Jacobi_step.l0]
    rw [if_pos (by omega), if_pos (by omega), if_pos (by omega), wrap_id (x := rd a (i : Int) - c) (by omega) (by omega), wrap_id (x := rd a (i : Int) - c - e) (by omega) (by omega), fmod_eq p _ (by omega) hp1]
    simp only [Option.bind_some, stepAt]
    generalize hq : (rd a (i : Int) - c - e) % p = q
    have hq2 := mod_lt (p := p) (x := rd a (i : Int) - c - e) (by omega)
    rw [hq] at hq2
    by_cases hz : q = 0
    · rw [if_pos hz, if_pos hz]
    · rw [if_neg hz, if_neg hz, fmul_eq p q e (by omega) hp1 hq2.1 (by omega) he0 (by omega), wrap_id (x := (i : Int) + 1) (by omega) (by omega)]
      simp only [Option.bind_some]
      have hinv := inv_lt (p := p) (x := q) (by omega)
      have he2 := mod_lt (p := p) (x := rd b ((i + 1 : Nat) : Int) * inv p q) (by omega)
      by_cases hi0 : i = 0
      · subst hi0
        have hb0' : 0 ≤ rd b 0 ∧ rd b 0 ≤ p - 1 := hb0
        rw [if_pos (by rfl), if_pos (by omega), fmul_eq p _ q (by omega) hp1 (by omega) (by omega) hq2.1 (by omega)]
        simp only [Option.bind_some]
        rw [if_pos (by omega), if_pos (by omega), show ((0 : Nat) : Int) + 1 = ((0 + 1 : Nat) : Int) from rfl, fdiv_eq p _ q k (by omega) hp1 (by omega) (by omega) hq2.1 hq2.2 (by omega)]
        simp only [Option.bind_some]
        generalize rd b ((0 + 1 : Nat) : Int) * inv p q % p = e' at he2 ⊢
        rw [wrap_id (x := q + e') (by omega) (by omega), wrap_id (x := q + e' + c) (by omega) (by omega), fmod_eq p _ (by omega) hp1]
        simp only [Option.bind_some]
        rw [if_pos (by simp; omega), if_pos (by simp; omega)]
        rw [stepW_l0 h hc0 hc d k (0 + 1) _ _ _ (by omega) (by omega) he2.1 he2.2 (by simp only [List.length_append, List.length_cons, List.length_nil]; omega) (by simp only [List.length_append, List.length_cons, List.length_nil]; omega)]
        congr 1
        cases stepAt p c a b d (0 + 1) e' <;> simp
      · rw [if_neg (by omega), if_pos (by omega), if_pos (by omega), show (i : Int) + 1 = ((i + 1 : Nat) : Int) from rfl, fdiv_eq p _ q k (by omega) hp1 (by omega) (by omega) hq2.1 hq2.2 (by omega)]
        simp only [Option.bind_some]
        generalize rd b ((i + 1 : Nat) : Int) * inv p q % p = e' at he2 ⊢
        rw [wrap_id (x := q + e') (by omega) (by omega), wrap_id (x := q + e' + c) (by omega) (by omega), fmod_eq p _ (by omega) hp1]
        simp only [Option.bind_some]
        rw [if_pos (by simp; omega), if_pos (by simp; omega)]
        rw [stepW_l0 h hc0 hc d k (i + 1) _ _ _ (by omega) (by omega) he2.1 he2.2 (by simp; omega) (by simp; omega)]
        congr 1
        cases stepAt p c a b d (i + 1) e' <;> simp [hi0]
theorem stepW_eq {p c : Int} {a b : List Int} (h : JacW p a b) (hc0 : 0 ≤ c) (hc : c < p) (k : Nat) (hk : 100 ≤ k) :
    impl_Jacobi_step.f k p a b c = some (match stepR p c a b with | none => (0, [], [], false) | some z => (p, z.1, z.2, true)) := by
  unfold impl_Jacobi_step.f impl_Jacobi_field.f impl_Jacobi_size.f impl_length_int64.f stepR
  simp only [Option.bind_some]
  have ht := h.top
  have hp := h.prime.1
  by_cases hl : a.length < 2
  · rw [if_pos (by omega), if_pos hl]
  · rw [if_neg (by omega), if_neg hl, wrap_id (by omega) (by omega), show ((a.length : Int) - 1) = ((a.length - 1 : Nat) : Int) by omega]
    have := stepW_l0 h hc0 hc (a.length - 1) k 0 0 [] [] (by omega) (by omega) (by omega) (by omega) (by simp) (by simp)
    rw [show ((0 : Int)) = ((0 : Nat) : Int) from rfl] at this ⊢
    rw [this]
    cases stepAt p c a b (a.length - 1) 0 ((0 : Nat) : Int) <;> simp

theorem l08StepW_l0 {p c : Int} {a b : List Int} (h : JacW p a b) (hc0 : 0 ≤ c) (hc : c < p) : ∀ (d k i : Nat) (e : Int) (xs ys : List Int), i + d + 1 = a.length → d + 60 < k → 0 ≤ e → e < p → xs.length ≤ i → ys.length ≤ i →
    ∃ z, spec_l08Step.l0 k c p a.length ((rd a i - c - e) % p) e i p a b p xs ys = some z ∧ (match stepAt p c a b d i e with | none => z.2.2.2 = false | some s => z = (p, xs ++ s.1, ys ++ s.2, true))
  | 0, k, i, e, xs, ys, hd, hk, he0, he, hx, hy => by
    obtain ⟨k, rfl⟩ : ∃ m, k = m + 1 := ⟨k - 1, by omega⟩
    have ht := h.top
    simp only [spec_l08Step.l0]
    rw [wrap_id (by omega) (by omega), if_neg (by omega)]
    exact ⟨_, rfl, by simp [stepAt]⟩
  | d + 1, k, i, e, xs, ys, hd, hk, he0, he, hx, hy => by
    obtain ⟨k, rfl⟩ : ∃ m, k = m + 1 := ⟨k - 1, by omega⟩
    have hp := h.prime.1
    have hp1 := h.prime.2.1
    have ht := h.top
    have hs := h.same
    have hai := InL_rd h.ina (i := i) (by omega)
    have hai1 := InL_rd h.ina (i := i + 1) (by omega)
    have hbi := InL_rd h.inb (i := i + 1) (by omega)
    have hb0 := InL_rd h.inb (i := 0) (by omega)
    simp only [spec_l08Step.l0]
    simp only [stepAt]
    generalize hq : (rd a (i : Int) - c - e) % p = q
    have hq2 := mod_lt (p := p) (x := rd a (i : Int) - c - e) (by omega)
    rw [hq] at hq2
    rw [wrap_id (x := (i : Int) + 1) (by omega) (by omega), if_pos (by omega)]
    by_cases hz : q = 0
    · rw [if_pos hz, if_pos hz]
      exact ⟨_, rfl, rfl⟩
    · have hinv := inv_lt (p := p) (x := q) (by omega)
      have he2 := mod_lt (p := p) (x := rd b ((i + 1 : Nat) : Int) * inv p q) (by omega)
      rw [if_neg hz, if_neg hz, if_pos (by omega), if_pos (by omega), l01Inverse_eq p q k (by omega) hp1 (by omega)]
      simp only [Option.bind_some]
      rw [if_neg (by omega), if_pos (by omega), show (i : Int) + 1 = ((i + 1 : Nat) : Int) from rfl, tmod_mul (by omega) (by omega) hinv.1 (by omega)]
      generalize he' : rd b ((i + 1 : Nat) : Int) * inv p q % p = e' at he2 ⊢
      rw [wrap_id (x := q + e') (by omega) (by omega), wrap_id (x := q + e' + c) (by omega) (by omega), Int.tmod_eq_emod_of_nonneg (by omega), wrap_id (x := rd a ((i + 1 : Nat) : Int) - c) (by omega) (by omega), wrap_id (x := rd a ((i + 1 : Nat) : Int) - c - e') (by omega) (by omega), l01Mod_eq p _ (by omega) hp1]
      simp only [Option.bind_some]
      by_cases hi0 : i = 0
      · subst hi0
        have hb0' : 0 ≤ rd b 0 ∧ rd b 0 ≤ p - 1 := hb0
        rw [if_pos (by rfl), if_pos (by omega), if_pos (by omega), if_pos (by omega), tmod_mul (by omega) (by omega) hq2.1 (by omega)]
        obtain ⟨z, h1, h2⟩ := l08StepW_l0 h hc0 hc d k 1 e' (xs ++ [(q + e' + c) % p]) (ys ++ [rd b 0 * q % p]) (by omega) (by omega) he2.1 he2.2 (by simp only [List.length_append, List.length_cons, List.length_nil]; omega) (by simp only [List.length_append, List.length_cons, List.length_nil]; omega)
        refine ⟨z, h1, ?_⟩
        cases hst : stepAt p c a b d (0 + 1) e' with
        | none => rw [show (1 : Nat) = 0 + 1 from rfl, hst] at h2; simpa using h2
        | some s => rw [show (1 : Nat) = 0 + 1 from rfl, hst] at h2; simpa using h2
      · rw [if_neg (by omega), if_pos (by omega), if_pos (by omega), tmod_mul hq2.1 (by omega) he0 (by omega)]
        obtain ⟨z, h1, h2⟩ := l08StepW_l0 h hc0 hc d k (i + 1) e' (xs ++ [(q + e' + c) % p]) (ys ++ [q * e % p]) (by omega) (by omega) he2.1 he2.2 (by simp; omega) (by simp; omega)
        refine ⟨z, h1, ?_⟩
        cases hst : stepAt p c a b d (i + 1) e' with
        | none => rw [hst] at h2; simpa using h2
        | some s => rw [hst] at h2; simpa [hi0] using h2
theorem l08StepW_eq {p c : Int} {a b : List Int} (h : JacW p a b) (hc0 : 0 ≤ c) (hc : c < p) (k : Nat) (hk : 100 ≤ k) :
    ∃ z, spec_l08Step.f k p a b c = some z ∧ (match stepR p c a b with | none => z.2.2.2 = false | some s => z = (p, s.1, s.2, true)) := by
  unfold spec_l08Step.f stepR
  simp only [Option.bind_some]
  have ht := h.top
  have hp := h.prime.1
  have hp1 := h.prime.2.1
  have h1 := h.one
  have ha0 : 0 ≤ rd a 0 ∧ rd a 0 ≤ p - 1 := InL_rd h.ina (i := 0) (by omega)
  by_cases hl : a.length < 2
  · rw [if_pos (by omega), if_pos hl]
    exact ⟨_, rfl, rfl⟩
  · rw [if_neg (by omega), if_neg hl, if_pos (by omega), wrap_id (by omega) (by omega), l01Mod_eq p _ (by omega) hp1]
    simp only [Option.bind_some]
    obtain ⟨z, h1, h2⟩ := l08StepW_l0 h hc0 hc (a.length - 1) k 0 0 [] [] (by omega) (by omega) (by omega) (by omega) (by simp) (by simp)
    refine ⟨z, by simpa using h1, ?_⟩
    cases hst : stepAt p c a b (a.length - 1) 0 0 with
    | none => rw [hst] at h2; simpa using h2
    | some s => rw [hst] at h2; simpa using h2
theorem stepAt_InL {p c : Int} {a b : List Int} (hp : 0 < p) : ∀ (d i : Nat) (e : Int) (z : List Int × List Int), stepAt p c a b d i e = some z → InL 0 (p - 1) z.1 ∧ InL 0 (p - 1) z.2
  | 0, i, e, z, h => by
    simp [stepAt] at h; subst h
    exact ⟨fun x hx => (by cases hx), fun x hx => (by cases hx)⟩
  | d + 1, i, e, z, h => by
    simp only [stepAt] at h
    split at h
    · cases h
    · rw [Option.map_eq_some_iff] at h
      obtain ⟨s, hs, rfl⟩ := h
      obtain ⟨h1, h2⟩ := stepAt_InL hp d (i + 1) _ s hs
      refine ⟨fun x hx => ?_, fun x hx => ?_⟩
      · rcases List.mem_cons.1 hx with rfl | hx
        · have := mod_lt (p := p) (x := (rd a i - c - e) % p + rd b (i + 1 : Nat) * inv p ((rd a i - c - e) % p) % p + c) hp; omega
        · exact h1 x hx
      · rcases List.mem_cons.1 hx with rfl | hx
        · split
          · have := mod_lt (p := p) (x := rd b (0 : Nat) * ((rd a i - c - e) % p)) hp; omega
          · have := mod_lt (p := p) (x := (rd a i - c - e) % p * e) hp; omega
        · exact h2 x hx
theorem stepR_W {p c : Int} {a b : List Int} {z : List Int × List Int} (h : JacW p a b) (hz : stepR p c a b = some z) : JacW p z.1 z.2 := by
  unfold stepR at hz
  split at hz
  · cases hz
  · next hl =>
    have ht := h.top
    have hp := h.prime.1
    obtain ⟨h1, h2⟩ := stepAt_length _ _ _ _ hz
    obtain ⟨h3, h4⟩ := stepAt_InL (by omega) _ _ _ _ hz
    exact ⟨h.prime, by omega, by omega, by omega, h3, h4⟩
def chainL (p c : Int) : Nat → List Int → List Int → Option (List S29)
  | 0, _, _ => some []
  | n + 1, a, b => (stepR p c a b).bind fun z => (chainL p c n z.1 z.2).map fun l => ⟨p, z.1, z.2⟩ :: l
theorem chainL_ok {p c : Int} : ∀ (n : Nat) (a b : List Int) (l : List S29), JacW p a b → chainL p c n a b = some l → l.length = n ∧ ∀ x ∈ l, x.f1.length ≤ 12 ∧ x.f2.length ≤ 12
  | 0, a, b, l, h, hl => by
    simp [chainL] at hl; subst hl; simp
  | n + 1, a, b, l, h, hl => by
    simp only [chainL] at hl
    obtain ⟨z, hz, hl⟩ := Option.bind_eq_some_iff.1 hl
    obtain ⟨l2, hl2, rfl⟩ := Option.map_eq_some_iff.1 hl
    have hw := stepR_W h hz
    obtain ⟨h1, h2⟩ := chainL_ok n z.1 z.2 l2 hw hl2
    refine ⟨by simp [h1], fun x hx => ?_⟩
    have := hw.top
    have := hw.same
    rcases List.mem_cons.1 hx with rfl | hx
    · exact ⟨by simp; omega, by simp; omega⟩
    · exact h2 x hx
def chainAns (p c : Int) (n : Nat) (pre : List S29) (a b : List Int) : List S29 × Int := match chainL p c n a b with | none => ([], 5) | some l => (pre ++ [⟨p, a, b⟩] ++ l, 0)
theorem chainAns_zero (p c : Int) (pre : List S29) (a b : List Int) : chainAns p c 0 pre a b = (pre ++ [⟨p, a, b⟩], 0) := by simp [chainAns, chainL]
theorem chainAns_succ (p c : Int) (n : Nat) (pre : List S29) (a b : List Int) : chainAns p c (n + 1) pre a b = match stepR p c a b with | none => ([], 5) | some z => chainAns p c n (pre ++ [⟨p, a, b⟩]) z.1 z.2 := by
  unfold chainAns
  simp only [chainL]
  cases stepR p c a b with
  | none => rfl
  | some z =>
    simp only [Option.bind_some]
    cases chainL p c n z.1 z.2 with
    | none => rfl
    | some l => simp
theorem rdT_last (pre : List S29) (x : S29) : rd_T29 (pre ++ [x]) (pre.length : Int) = x := by simp [rd_T29]
theorem Steps_l0 {p c : Int} (hc0 : 0 ≤ c) (hc : c < p) : ∀ (d K : Nat) (pre : List S29) (a b : List Int), JacW p a b → pre.length + d ≤ 100 → d + 200 < K →
    impl_StepsOfJacobi.l0 K c (pre ++ [⟨p, a, b⟩]) ((pre.length + d : Nat) : Int) (pre.length : Int) = some (chainAns p c d pre a b)
  | 0, K, pre, a, b, h, hd, hK => by
    obtain ⟨K, rfl⟩ : ∃ m, K = m + 1 := ⟨K - 1, by omega⟩
    simp only [impl_StepsOfJacobi.l0]
    rw [if_neg (by omega), chainAns_zero]
  | d + 1, K, pre, a, b, h, hd, hK => by
    obtain ⟨K, rfl⟩ : ∃ m, K = m + 1 := ⟨K - 1, by omega⟩
    simp only [impl_StepsOfJacobi.l0]
    rw [if_pos (by omega), if_pos (by omega), if_pos (by simp; omega), rdT_last, stepW_eq h hc0 hc K (by omega), Option.bind_some, chainAns_succ]
    cases hs : stepR p c a b with
    | none => simp
    | some z =>
      simp only [if_true]
      rw [if_pos (by simp; omega), wrap_id (by omega) (by omega)]
      have ih := Steps_l0 hc0 hc d K (pre ++ [⟨p, a, b⟩]) z.1 z.2 (stepR_W h hs) (by simp; omega) (by omega)
      rw [show (((pre ++ [(⟨p, a, b⟩ : S29)]).length + d : Nat) : Int) = ((pre.length + (d + 1) : Nat) : Int) by simp; omega, show (((pre ++ [(⟨p, a, b⟩ : S29)]).length : Nat) : Int) = (pre.length : Int) + 1 by simp] at ih
      exact ih
theorem spec_Steps_l0 {p c : Int} (hc0 : 0 ≤ c) (hc : c < p) : ∀ (d K : Nat) (pre : List S29) (a b : List Int), JacW p a b → pre.length + d ≤ 100 → d + 200 < K →
    spec_StepsOfJacobi.l0 K c (d : Int) (pre ++ [⟨p, a, b⟩]) = some (chainAns p c d pre a b)
  | 0, K, pre, a, b, h, hd, hK => by
    obtain ⟨K, rfl⟩ : ∃ m, K = m + 1 := ⟨K - 1, by omega⟩
    simp only [spec_StepsOfJacobi.l0]
    rw [if_neg (by omega), chainAns_zero]
  | d + 1, K, pre, a, b, h, hd, hK => by
    obtain ⟨K, rfl⟩ : ∃ m, K = m + 1 := ⟨K - 1, by omega⟩
    have hl : wrap64 (((pre ++ [(⟨p, a, b⟩ : S29)]).length : Int) - 1) = (pre.length : Int) := by
      rw [wrap_id (by simp <;> omega) (by simp <;> omega)]; simp
    obtain ⟨z, hz, hm⟩ := l08StepW_eq h hc0 hc K (by omega)
    simp only [spec_StepsOfJacobi.l0]
    rw [hl, if_pos (by omega), if_pos (by omega), if_pos (by simp; omega), rdT_last, hz, Option.bind_some, chainAns_succ]
    cases hs : stepR p c a b with
    | none =>
      rw [hs] at hm
      simp only at hm
      rw [hm, if_neg (by decide)]
    | some s =>
      rw [hs] at hm
      simp only at hm
      subst hm
      simp only [if_true]
      rw [if_pos (by simp; omega), wrap_id (by omega) (by omega)]
      have ih := spec_Steps_l0 hc0 hc d K (pre ++ [⟨p, a, b⟩]) s.1 s.2 (stepR_W h hs) (by simp; omega) (by omega)
      rw [show (((d + 1 : Nat) : Int) - 1) = (d : Int) by omega]
      exact ih
noncomputable def stepsAns (p : Int) (a b : List Int) (c n : Int) : List S29 × Int :=
  if jacB p a b = true then if (0 ≤ c ∧ c ≤ p - 1) ∧ (0 ≤ n ∧ n ≤ 12) then chainAns p c n.toNat [] a b else ([], 2) else ([], 1)
theorem stepsAns_length (p : Int) (a b : List Int) (c n : Int) : (stepsAns p a b c n).1.length ≤ 13 ∧ ∀ x ∈ (stepsAns p a b c n).1, x.f1.length ≤ 12 ∧ x.f2.length ≤ 12 := by
  unfold stepsAns
  split
  · next h =>
    have hj := (jacB_iff.1 h).weak
    split
    · next hc =>
      unfold chainAns
      cases hl : chainL p c n.toNat a b with
      | none => simp
      | some l =>
        obtain ⟨h1, h2⟩ := chainL_ok _ _ _ _ hj hl
        have := hj.top
        have := hj.same
        refine ⟨by simp [h1]; omega, fun x hx => ?_⟩
        simp only [List.nil_append, List.singleton_append, List.mem_cons] at hx
        rcases hx with rfl | hx
        · exact ⟨by simp; omega, by simp; omega⟩
        · exact h2 x hx
    · simp
  · simp
theorem cloneS_eq (l : List Int) (h : l.length ≤ 1000000) : slices_Clone_int64_int64.f l = some l := by
  unfold slices_Clone_int64_int64.f
  rw [if_pos (by omega)]
theorem part_all {p : Int} {a b : List Int} (h : JacP p a b) : impl_Jacobi_part.f p a b 0 (a.length : Int) = some (p, a, b) := by
  have ht := h.top
  have hs := h.same
  unfold impl_Jacobi_part.f
  rw [if_pos (by omega), if_pos (by omega), if_pos (by omega), show ((a.length : Int)).toNat = a.length from rfl, show (0 : Int).toNat = 0 from rfl, List.drop_zero, List.take_length, cloneS_eq a (by omega), Option.bind_some, if_pos (by omega), List.drop_zero, List.take_of_length_le (by omega), cloneS_eq b (by omega), Option.bind_some]
theorem StepsOfJacobi_eq (p : Int) (a b : List Int) (c n : Int) (K : Nat) (hK : 500 ≤ K) : impl_StepsOfJacobi.f K p a b c n = some (stepsAns p a b c n) := by
  unfold impl_StepsOfJacobi.f impl_Jacobi_field.f stepsAns
  simp only [Option.bind_some, has_eq, within_eq]
  obtain ⟨K, rfl⟩ : ∃ m, K = m + 1 := ⟨K - 1, by omega⟩
  by_cases h : jacB p a b = true
  · have hj := jacB_iff.1 h
    have ht := hj.top
    by_cases hc : 0 ≤ c ∧ c ≤ p - 1
    · by_cases hn : 0 ≤ n ∧ n ≤ 12
      · rw [if_pos (by simpa using hc), jacobiCode_eq p a b _ _ (by omega), if_pos h, if_pos h, if_pos (show decide (0 ≤ n ∧ n ≤ 12) = true by simpa using hn), if_pos (show (0 ≤ c ∧ c ≤ p - 1) ∧ (0 ≤ n ∧ n ≤ 12) from ⟨hc, hn⟩), Option.bind_some]
        simp only [impl_StepsOfJacobi.j0]
        rw [if_pos trivial, show impl_Jacobi_size.f p a b = some (a.length : Int) from rfl, Option.bind_some, part_all hj, Option.bind_some]
        have := Steps_l0 hc.1 (show c < p by omega) n.toNat K [] a b hj.weak (by simp; omega) (by omega)
        simp only [List.nil_append, List.length_nil, Nat.zero_add] at this
        rw [show ((n.toNat : Nat) : Int) = n by omega] at this
        exact this
      · rw [if_pos (by simpa using hc), jacobiCode_eq p a b _ _ (by omega), if_pos h, if_pos h, if_neg (show ¬ decide (0 ≤ n ∧ n ≤ 12) = true by simpa using hn), if_neg (show ¬ ((0 ≤ c ∧ c ≤ p - 1) ∧ (0 ≤ n ∧ n ≤ 12)) from fun h_ => hn h_.2), Option.bind_some]
        simp [impl_StepsOfJacobi.j0]
    · rw [if_neg (by simpa using hc), jacobiCode_eq p a b _ _ (by omega), if_pos h, if_pos h, if_neg (show ¬ (false = true) by decide), if_neg (show ¬ ((0 ≤ c ∧ c ≤ p - 1) ∧ (0 ≤ n ∧ n ≤ 12)) from fun h_ => hc h_.1), Option.bind_some]
      simp [impl_StepsOfJacobi.j0]
  · rw [if_neg h]
    split <;> (rw [jacobiCode_eq p a b _ _ (by omega), if_neg h, Option.bind_some]; simp [impl_StepsOfJacobi.j0])
theorem spec_StepsOfJacobi_eq (p : Int) (a b : List Int) (c n : Int) (K : Nat) (hK : 500 ≤ K) : spec_StepsOfJacobi.f K p a b c n = some (stepsAns p a b c n) := by
  unfold spec_StepsOfJacobi.f stepsAns
  rw [l08Code_eq p 0 a b [c] (by simp) K (by omega), Option.bind_some, l01In_eq]
  obtain ⟨K, rfl⟩ : ∃ m, K = m + 2 := ⟨K - 2, by omega⟩
  by_cases h : jacB p a b = true
  · have hj := jacB_iff.1 h
    have ht := hj.top
    have hs := hj.same
    rw [if_pos h, if_pos h]
    by_cases hc : 0 ≤ c ∧ c ≤ p - 1
    · rw [if_pos (show ([c].all fun x => decide (0 ≤ x ∧ x ≤ p - 1)) = true by simpa using hc), if_pos (show (0 : Int) = 0 from rfl), Option.bind_some]
      by_cases hn : 0 ≤ n ∧ n ≤ 12
      · rw [if_pos (show (0 ≤ c ∧ c ≤ p - 1) ∧ (0 ≤ n ∧ n ≤ 12) from ⟨hc, hn⟩), show (!decide (0 ≤ n ∧ n ≤ 12)) = false by simp [hn]]
        simp only [spec_StepsOfJacobi.j0, spec_StepsOfJacobi.j1]
        rw [if_neg (by decide), if_pos trivial]
        unfold spec_l08Copy.f
        rw [Own_eq a (by omega), Option.bind_some, Own_eq b (by omega), Option.bind_some, Option.bind_some]
        have := spec_Steps_l0 hc.1 (show c < p by omega) n.toNat K [] a b hj.weak (by simp; omega) (by omega)
        simp only [List.nil_append] at this
        rw [show ((n.toNat : Nat) : Int) = n by omega] at this
        exact this
      · rw [if_neg (show ¬ ((0 ≤ c ∧ c ≤ p - 1) ∧ (0 ≤ n ∧ n ≤ 12)) from fun h_ => hn h_.2), show (!decide (0 ≤ n ∧ n ≤ 12)) = true by simp; omega]
        simp [spec_StepsOfJacobi.j0, spec_StepsOfJacobi.j1]
    · rw [if_neg (show ¬ ([c].all fun x => decide (0 ≤ x ∧ x ≤ p - 1)) = true by simpa using hc), if_neg (show ¬ ((2 : Int) = 0) by decide), if_neg (show ¬ ((0 ≤ c ∧ c ≤ p - 1) ∧ (0 ≤ n ∧ n ≤ 12)) from fun h_ => hc h_.1)]
      simp [spec_StepsOfJacobi.j0, spec_StepsOfJacobi.j1]
  · rw [if_neg h, if_neg h, if_neg (by decide)]
    simp [spec_StepsOfJacobi.j0, spec_StepsOfJacobi.j1]
theorem rdT_nat {l : List S29} {i : Nat} (h : i < l.length) : rd_T29 l (i : Int) = l[i] := by simp [rd_T29, h]
theorem eqJS_l0 (l : List S29) (hl : l.length ≤ 1000) (hr : ∀ x ∈ l, x.f1.length ≤ 1000 ∧ x.f2.length ≤ 1000) : ∀ (d i K : Nat), i + d = l.length → d + 1048580 < K → laws_eqJacobiS.l0 K l l i = some true
  | 0, i, K, hd, hK => by
    obtain ⟨K, rfl⟩ : ∃ m, K = m + 1 := ⟨K - 1, by omega⟩
    simp only [laws_eqJacobiS.l0]
    rw [if_neg (by omega)]
  | d + 1, i, K, hd, hK => by
    obtain ⟨K, rfl⟩ : ∃ m, K = m + 1 := ⟨K - 1, by omega⟩
    have hi : i < l.length := by omega
    have h1 := hr l[i] (List.getElem_mem hi)
    simp only [laws_eqJacobiS.l0]
    rw [if_pos (by omega), if_pos (by omega), if_pos (by omega), rdT_nat hi, eqJacobi_refl _ _ _ _ (by omega) (by omega) (by omega), Option.bind_some, if_pos rfl, wrap_id (by omega) (by omega)]
    exact eqJS_l0 l hl hr d (i + 1) K (by omega) (by omega)
theorem eqJacobiS_refl (l : List S29) (hl : l.length ≤ 1000) (hr : ∀ x ∈ l, x.f1.length ≤ 1000 ∧ x.f2.length ≤ 1000) (K : Nat) (hK : 1050000 ≤ K) : laws_eqJacobiS.f K l l = some true := by
  unfold laws_eqJacobiS.f
  rw [if_pos rfl]
  exact eqJS_l0 l hl hr l.length 0 K (by omega) (by omega)
def totJ (m : Int) : List S29 → Int
  | [] => m
  | r :: rs => totJ (m + 1 + r.f1.length + r.f2.length) rs
def marksJ (m : Int) : List S29 → List S29
  | [] => []
  | r :: rs => ⟨m, marks (m + 1) r.f1.length, marks (m + 1 + r.f1.length) r.f2.length⟩ :: marksJ (m + 1 + r.f1.length + r.f2.length) rs
theorem marksJ_length : ∀ (l : List S29) (m : Int), (marksJ m l).length = l.length
  | [], _ => rfl
  | r :: rs, m => by simp [marksJ, marksJ_length rs]
theorem totJ_ge : ∀ (l : List S29) (m : Int), m ≤ totJ m l
  | [], m => Int.le_refl m
  | r :: rs, m => Int.le_trans (by omega) (totJ_ge rs (m + 1 + r.f1.length + r.f2.length))
theorem markJS_eq : ∀ (l : List S29) (m : Int) (K : Nat), 0 ≤ m → m ≤ 1000000000 → l.length ≤ 1000 → (∀ r ∈ l, r.f1.length ≤ 1000 ∧ r.f2.length ≤ 1000) → m + 2001 * l.length ≤ 1000000000 → 1001 ≤ K → laws_markJacobiS.f K l m = some (totJ m l, marksJ m l)
  | [], m, K, h0, h1, hl, hr, hm, hK => rfl
  | r :: rs, m, K, h0, h1, hl, hr, hm, hK => by
    have hr1 := hr r List.mem_cons_self
    simp only [List.length_cons] at hl hm
    simp only [laws_markJacobiS.f]
    rw [wrap_id (by omega) (by omega), markInt64S_eq r.f1 (m + 1) K (by omega) (by omega) (by omega), Option.bind_some, markInt64S_eq r.f2 _ K (by omega) (by omega) (by omega), Option.bind_some, markJS_eq rs _ K (by omega) (by omega) (by omega) (fun q hq => hr q (List.mem_cons_of_mem _ hq)) (by omega) hK, Option.bind_some]
    rfl
theorem heldJS_l0 (l : List S29) (hl : l.length ≤ 1000) : ∀ (done todo : List S29) (m : Int) (K : Nat), l = done ++ todo → 0 ≤ m → (∀ r ∈ todo, r.f1.length ≤ 1000 ∧ r.f2.length ≤ 1000) → m + 2001 * todo.length ≤ 1000000000 → ∀ (pre rows : List S29), rows = pre ++ marksJ m todo → pre.length = done.length → todo.length + 1002 ≤ K → laws_heldJacobiS.l0 K rows m (done.length : Int) = some (totJ m todo)
  | done, [], m, K, he, h0, hr, hm, pre, rows, hrow, hp, hK => by
    obtain ⟨K, rfl⟩ : ∃ m, K = m + 1 := ⟨K - 1, by omega⟩
    subst hrow
    simp only [laws_heldJacobiS.l0, marksJ, List.append_nil]
    rw [if_neg (by omega)]
    rfl
  | done, r :: rs, m, K, he, h0, hr, hm, pre, rows, hrow, hp, hK => by
    obtain ⟨K, rfl⟩ : ∃ m, K = m + 1 := ⟨K - 1, by omega⟩
    have hr1 := hr r List.mem_cons_self
    have hdl : done.length + (rs.length + 1) = l.length := by rw [he]; simp
    simp only [List.length_cons] at hm hK
    have hlen : rows.length = pre.length + (rs.length + 1) := by rw [hrow, List.length_append]; simp [marksJ, marksJ_length]
    have hget : rd_T29 rows (done.length : Int) = ⟨m, marks (m + 1) r.f1.length, marks (m + 1 + r.f1.length) r.f2.length⟩ := by
      rw [rdT_nat (by omega)]
      subst hrow
      rw [List.getElem_append_right (by omega)]
      simp [marksJ, hp]
    simp only [laws_heldJacobiS.l0]
    rw [if_pos (by omega), if_pos (by omega), hget]
    simp only
    rw [if_pos trivial, wrap_id (x := m + 1) (by omega) (by omega), heldInt64S_eq r.f1.length (m + 1) K (by omega) (by omega) (by omega), Option.bind_some, if_neg (by omega), heldInt64S_eq r.f2.length _ K (by omega) (by omega) (by omega), Option.bind_some, if_neg (by omega), wrap_id (by omega) (by omega), show ((done.length : Int) + 1) = (((done ++ [r]).length : Nat) : Int) by simp]
    exact heldJS_l0 l hl (done ++ [r]) rs _ K (by rw [he]; simp) (by omega) (fun q hq => hr q (List.mem_cons_of_mem _ hq)) (by omega) (pre ++ [⟨m, marks (m + 1) r.f1.length, marks (m + 1 + r.f1.length) r.f2.length⟩]) rows (by rw [hrow]; simp [marksJ]) (by simp [hp]) (by omega)
theorem heldJS_eq (l : List S29) (m : Int) (K : Nat) (h0 : 0 ≤ m) (hl : l.length ≤ 1000) (hr : ∀ r ∈ l, r.f1.length ≤ 1000 ∧ r.f2.length ≤ 1000) (hm : m + 2001 * l.length ≤ 1000000000) (hK : 2002 ≤ K) : laws_heldJacobiS.f K (marksJ m l) m = some (totJ m l) := by
  have := heldJS_l0 l hl [] l m K rfl h0 hr hm [] (marksJ m l) rfl rfl (by omega)
  exact this
end Go.Proofs.Ytaclapojgdekpaa.Pl
