/- Part of the proof of the law FnExactStepOfJacobi. -/
import Derived.Test.YtaclapojgdekpaaCStepOfJacobiPlBase
import Derived.Test.YtaclapojgdekpaaCStepOfJacobiPlJac
import Derived.Test.YtaclapojgdekpaaCStepOfJacobiX10
import Derived.Test.YtaclapojgdekpaaCStepOfJacobiX11
import Derived.Test.YtaclapojgdekpaaCStepOfJacobiX12
import Derived.Test.YtaclapojgdekpaaCStepOfJacobiX5
import Derived.Test.YtaclapojgdekpaaCStepOfJacobiX8
import Derived.Test.YtaclapojgdekpaaCStepOfJacobiX9
namespace Go.Proofs.Ytaclapojgdekpaa.Pl
open Go.RowKit Go.Proofs.YtaclapojgdekpaaW.PrintWords Go.Proofs.Ytaclapojgdekpaa.X
set_option linter.unusedVariables false
set_option linter.unusedSimpArgs false

def stepAt (p c : Int) (a b : List Int) : Nat → Nat → Int → Option (List Int × List Int)
  | 0, _, _ => some ([], [])
  | d + 1, i, e =>
    let q := (rd a i - c - e) % p
    if q = 0 then none else
      let e' := rd b (i + 1 : Nat) * inv p q % p
      (stepAt p c a b d (i + 1) e').map fun z => ((q + e' + c) % p :: z.1, (if i = 0 then rd b (0 : Nat) * q % p else q * e % p) :: z.2)
def stepR (p c : Int) (a b : List Int) : Option (List Int × List Int) := if a.length < 2 then none else stepAt p c a b (a.length - 1) 0 0

theorem InL_rd {lo top : Int} {l : List Int} (h : InL lo top l) {i : Nat} (hi : i < l.length) : lo ≤ rd l i ∧ rd l i ≤ top := by
  rw [rd_nat hi]; exact h _ (List.getElem_mem hi)

theorem step_l0 {p c : Int} {a b : List Int} (h : JacP p a b) (hc0 : 0 ≤ c) (hc : c < p) : ∀ (d k i : Nat) (e : Int) (xs ys : List Int), i + d + 1 = a.length → d + 60 < k → 0 ≤ e → e < p → xs.length ≤ i → ys.length ≤ i →
    impl_Jacobi_step.l0 k c p e ((a.length - 1 : Nat) : Int) i p a b p xs ys = some (match stepAt p c a b d i e with | none => (0, [], [], false) | some z => (p, xs ++ z.1, ys ++ z.2, true))
  | 0, k, i, e, xs, ys, hd, hk, he0, he, hx, hy => by
    obtain ⟨k, rfl⟩ : ∃ m, k = m + 1 := ⟨k - 1, by omega⟩
    simp only [impl_Jacobi_step.l0]
    rw [if_neg (by omega)]
    simp [stepAt]
  | d + 1, k, i, e, xs, ys, hd, hk, he0, he, hx, hy => by
    obtain ⟨k, rfl⟩ : ∃ m, k = m + 1 := ⟨k - 1, by omega⟩
    have hp := h.prime.1
    have hp1 := h.prime.2.1
    have ht := h.top
    have hs := h.same
    have hai := InL_rd h.ina (i := i) (by omega)
    have hbi := InL_rd h.inb (i := i + 1) (by omega)
    have hb0 := InL_rd h.inb (i := 0) (by omega)
    simp only [impl_Jacobi_step.l0]
    rw [if_pos (by omega), if_pos (by omega), if_pos (by omega), wrap_id (x := rd a (i : Int) - c) (by omega) (by omega), wrap_id (x := rd a (i : Int) - c - e) (by omega) (by omega), fmod_eq p _ (by omega) hp1]
    simp only [Option.bind_some, stepAt]
    generalize hq : (rd a (i : Int) - c - e) % p = q
    have hq2 := mod_lt (p := p) (x := rd a (i : Int) - c - e) (by omega)
    rw [hq] at hq2
    by_cases hz : q = 0
    · rw [if_pos hz, if_pos hz]
    · rw [if_neg hz, if_neg hz, fmul_eq p q e (by omega) hp1 hq2.1 (by omega) he0 (by omega), wrap_id (x := (i : Int) + 1) (by omega) (by omega)]
      simp only [Option.bind_some]
      have hinv := inv_lt (p := p) (x := q) (by omega)
      have he2 := mod_lt (p := p) (x := rd b ((i + 1 : Nat) : Int) * inv p q) (by omega)
      by_cases hi0 : i = 0
      · subst hi0
        have hb0' : 1 ≤ rd b 0 ∧ rd b 0 ≤ p - 1 := hb0
        rw [if_pos (by rfl), if_pos (by omega), fmul_eq p _ q (by omega) hp1 (by omega) (by omega) hq2.1 (by omega)]
        simp only [Option.bind_some]
        rw [if_pos (by omega), if_pos (by omega), show ((0 : Nat) : Int) + 1 = ((0 + 1 : Nat) : Int) from rfl, fdiv_eq p _ q k (by omega) hp1 (by omega) (by omega) hq2.1 hq2.2 (by omega)]
        simp only [Option.bind_some]
        generalize rd b ((0 + 1 : Nat) : Int) * inv p q % p = e' at he2 ⊢
        rw [wrap_id (x := q + e') (by omega) (by omega), wrap_id (x := q + e' + c) (by omega) (by omega), fmod_eq p _ (by omega) hp1]
        simp only [Option.bind_some]
        rw [if_pos (by simp; omega), if_pos (by simp; omega)]
        rw [step_l0 h hc0 hc d k (0 + 1) _ _ _ (by omega) (by omega) he2.1 he2.2 (by simp only [List.length_append, List.length_cons, List.length_nil]; omega) (by simp only [List.length_append, List.length_cons, List.length_nil]; omega)]
        congr 1
        cases stepAt p c a b d (0 + 1) e' <;> simp
      · rw [if_neg (by omega), if_pos (by omega), if_pos (by omega), show (i : Int) + 1 = ((i + 1 : Nat) : Int) from rfl, fdiv_eq p _ q k (by omega) hp1 (by omega) (by omega) hq2.1 hq2.2 (by omega)]
        simp only [Option.bind_some]
        generalize rd b ((i + 1 : Nat) : Int) * inv p q % p = e' at he2 ⊢
        rw [wrap_id (x := q + e') (by omega) (by omega), wrap_id (x := q + e' + c) (by omega) (by omega), fmod_eq p _ (by omega) hp1]
        simp only [Option.bind_some]
        rw [if_pos (by simp; omega), if_pos (by simp; omega)]
        rw [step_l0 h hc0 hc d k (i + 1) _ _ _ (by omega) (by omega) he2.1 he2.2 (by simp; omega) (by simp; omega)]
        congr 1
        cases stepAt p c a b d (i + 1) e' <;> simp [hi0]
theorem step_eq {p c : Int} {a b : List Int} (h : JacP p a b) (hc0 : 0 ≤ c) (hc : c < p) (k : Nat) (hk : 100 ≤ k) :
    impl_Jacobi_step.f k p a b c = some (match stepR p c a b with | none => (0, [], [], false) | some z => (p, z.1, z.2, true)) := by
  unfold impl_Jacobi_step.f impl_Jacobi_field.f impl_Jacobi_size.f impl_length_int64.f stepR
  simp only [Option.bind_some]
  have ht := h.top
  have hp := h.prime.1
  by_cases hl : a.length < 2
  · rw [if_pos (by omega), if_pos hl]
  · rw [if_neg (by omega), if_neg hl, wrap_id (by omega) (by omega), show ((a.length : Int) - 1) = ((a.length - 1 : Nat) : Int) by omega]
    have := step_l0 h hc0 hc (a.length - 1) k 0 0 [] [] (by omega) (by omega) (by omega) (by omega) (by simp) (by simp)
    rw [show ((0 : Int)) = ((0 : Nat) : Int) from rfl] at this ⊢
    rw [this]
    cases stepAt p c a b (a.length - 1) 0 ((0 : Nat) : Int) <;> simp

theorem l08Step_l0 {p c : Int} {a b : List Int} (h : JacP p a b) (hc0 : 0 ≤ c) (hc : c < p) : ∀ (d k i : Nat) (e : Int) (xs ys : List Int), i + d + 1 = a.length → d + 60 < k → 0 ≤ e → e < p → xs.length ≤ i → ys.length ≤ i →
    ∃ z, spec_l08Step.l0 k c p a.length ((rd a i - c - e) % p) e i p a b p xs ys = some z ∧ (match stepAt p c a b d i e with | none => z.2.2.2 = false | some s => z = (p, xs ++ s.1, ys ++ s.2, true))
  | 0, k, i, e, xs, ys, hd, hk, he0, he, hx, hy => by
    obtain ⟨k, rfl⟩ : ∃ m, k = m + 1 := ⟨k - 1, by omega⟩
    have ht := h.top
    simp only [spec_l08Step.l0]
    rw [wrap_id (by omega) (by omega), if_neg (by omega)]
    exact ⟨_, rfl, by simp [stepAt]⟩
  | d + 1, k, i, e, xs, ys, hd, hk, he0, he, hx, hy => by
    obtain ⟨k, rfl⟩ : ∃ m, k = m + 1 := ⟨k - 1, by omega⟩
    have hp := h.prime.1
    have hp1 := h.prime.2.1
    have ht := h.top
    have hs := h.same
    have hai := InL_rd h.ina (i := i) (by omega)
    have hai1 := InL_rd h.ina (i := i + 1) (by omega)
    have hbi := InL_rd h.inb (i := i + 1) (by omega)
    have hb0 := InL_rd h.inb (i := 0) (by omega)
    simp only [spec_l08Step.l0]
    simp only [stepAt]
    generalize hq : (rd a (i : Int) - c - e) % p = q
    have hq2 := mod_lt (p := p) (x := rd a (i : Int) - c - e) (by omega)
    rw [hq] at hq2
    rw [wrap_id (x := (i : Int) + 1) (by omega) (by omega), if_pos (by omega)]
    by_cases hz : q = 0
    · rw [if_pos hz, if_pos hz]
      exact ⟨_, rfl, rfl⟩
    · have hinv := inv_lt (p := p) (x := q) (by omega)
      have he2 := mod_lt (p := p) (x := rd b ((i + 1 : Nat) : Int) * inv p q) (by omega)
      rw [if_neg hz, if_neg hz, if_pos (by omega), if_pos (by omega), l01Inverse_eq p q k (by omega) hp1 (by omega)]
      simp only [Option.bind_some]
      rw [if_neg (by omega), if_pos (by omega), show (i : Int) + 1 = ((i + 1 : Nat) : Int) from rfl, tmod_mul (by omega) (by omega) hinv.1 (by omega)]
      generalize he' : rd b ((i + 1 : Nat) : Int) * inv p q % p = e' at he2 ⊢
      rw [wrap_id (x := q + e') (by omega) (by omega), wrap_id (x := q + e' + c) (by omega) (by omega), Int.tmod_eq_emod_of_nonneg (by omega), wrap_id (x := rd a ((i + 1 : Nat) : Int) - c) (by omega) (by omega), wrap_id (x := rd a ((i + 1 : Nat) : Int) - c - e') (by omega) (by omega), l01Mod_eq p _ (by omega) hp1]
      simp only [Option.bind_some]
      by_cases hi0 : i = 0
      · subst hi0
        have hb0' : 1 ≤ rd b 0 ∧ rd b 0 ≤ p - 1 := hb0
        rw [if_pos (by rfl), if_pos (by omega), if_pos (by omega), if_pos (by omega), tmod_mul (by omega) (by omega) hq2.1 (by omega)]
        obtain ⟨z, h1, h2⟩ := l08Step_l0 h hc0 hc d k 1 e' (xs ++ [(q + e' + c) % p]) (ys ++ [rd b 0 * q % p]) (by omega) (by omega) he2.1 he2.2 (by simp only [List.length_append, List.length_cons, List.length_nil]; omega) (by simp only [List.length_append, List.length_cons, List.length_nil]; omega)
        refine ⟨z, h1, ?_⟩
        cases hst : stepAt p c a b d (0 + 1) e' with
        | none => rw [show (1 : Nat) = 0 + 1 from rfl, hst] at h2; simpa using h2
        | some s => rw [show (1 : Nat) = 0 + 1 from rfl, hst] at h2; simpa using h2
      · rw [if_neg (by omega), if_pos (by omega), if_pos (by omega), tmod_mul hq2.1 (by omega) he0 (by omega)]
        obtain ⟨z, h1, h2⟩ := l08Step_l0 h hc0 hc d k (i + 1) e' (xs ++ [(q + e' + c) % p]) (ys ++ [q * e % p]) (by omega) (by omega) he2.1 he2.2 (by simp; omega) (by simp; omega)
        refine ⟨z, h1, ?_⟩
        cases hst : stepAt p c a b d (i + 1) e' with
        | none => rw [hst] at h2; simpa using h2
        | some s => rw [hst] at h2; simpa [hi0] using h2
theorem l08Step_eq {p c : Int} {a b : List Int} (h : JacP p a b) (hc0 : 0 ≤ c) (hc : c < p) (k : Nat) (hk : 100 ≤ k) :
    ∃ z, spec_l08Step.f k p a b c = some z ∧ (match stepR p c a b with | none => z.2.2.2 = false | some s => z = (p, s.1, s.2, true)) := by
  unfold spec_l08Step.f stepR
  simp only [Option.bind_some]
  have ht := h.top
  have hp := h.prime.1
  have hp1 := h.prime.2.1
  have h1 := h.one
  have ha0 : 0 ≤ rd a 0 ∧ rd a 0 ≤ p - 1 := InL_rd h.ina (i := 0) (by omega)
  by_cases hl : a.length < 2
  · rw [if_pos (by omega), if_pos hl]
    exact ⟨_, rfl, rfl⟩
  · rw [if_neg (by omega), if_neg hl, if_pos (by omega), wrap_id (by omega) (by omega), l01Mod_eq p _ (by omega) hp1]
    simp only [Option.bind_some]
    obtain ⟨z, h1, h2⟩ := l08Step_l0 h hc0 hc (a.length - 1) k 0 0 [] [] (by omega) (by omega) (by omega) (by omega) (by simp) (by simp)
    refine ⟨z, by simpa using h1, ?_⟩
    cases hst : stepAt p c a b (a.length - 1) 0 0 with
    | none => rw [hst] at h2; simpa using h2
    | some s => rw [hst] at h2; simpa using h2
theorem stepAt_length {p c : Int} {a b : List Int} : ∀ (d i : Nat) (e : Int) (z : List Int × List Int), stepAt p c a b d i e = some z → z.1.length = d ∧ z.2.length = d
  | 0, i, e, z, h => by simp [stepAt] at h; subst h; simp
  | d + 1, i, e, z, h => by
    simp only [stepAt] at h
    split at h
    · cases h
    · rw [Option.map_eq_some_iff] at h
      obtain ⟨s, hs, rfl⟩ := h
      have := stepAt_length d (i + 1) _ s hs
      simp [this]

noncomputable def stepAns (p : Int) (a b : List Int) (c : Int) : Int × List Int × List Int × Int :=
  if jacB p a b = true then if 0 ≤ c ∧ c ≤ p - 1 then match stepR p c a b with | none => (0, [], [], 5) | some z => (p, z.1, z.2, 0) else (0, [], [], 2) else (0, [], [], 1)
theorem stepAns_length (p : Int) (a b : List Int) (c : Int) : (stepAns p a b c).2.1.length ≤ 12 ∧ (stepAns p a b c).2.2.1.length ≤ 12 := by
  unfold stepAns
  by_cases h : jacB p a b = true
  · rw [if_pos h]
    have ht := (jacB_iff.1 h).top
    by_cases hc : 0 ≤ c ∧ c ≤ p - 1
    · rw [if_pos hc]
      cases hs : stepR p c a b with
      | none => simp
      | some z =>
        unfold stepR at hs
        split at hs
        · cases hs
        · have := stepAt_length _ _ _ _ hs
          simp only; omega
    · rw [if_neg hc]; simp
  · rw [if_neg h]; simp
theorem StepOfJacobi_eq (p : Int) (a b : List Int) (c : Int) (k : Nat) (hk : 300 ≤ k) : impl_StepOfJacobi.f k p a b c = some (stepAns p a b c) := by
  unfold impl_StepOfJacobi.f impl_Jacobi_field.f stepAns
  simp only [Option.bind_some, has_eq]
  rw [jacobiCode_eq p a b _ k (by omega)]
  simp only [Option.bind_some]
  by_cases h : jacB p a b = true
  · rw [if_pos h, if_pos h]
    by_cases hc : 0 ≤ c ∧ c ≤ p - 1
    · rw [if_pos (by simpa using hc), if_pos hc, step_eq (jacB_iff.1 h) hc.1 (by omega) k (by omega)]
      simp only [Option.bind_some]
      cases stepR p c a b <;> simp
    · rw [if_neg (by simpa using hc), if_neg hc]; simp; omega
  · rw [if_neg h, if_neg h]; simp
theorem l08Code_l0 (p lo : Int) (a b l : List Int) (hl : l.length ≤ 100) (hp : -9223372036854775807 ≤ p) (hp1 : p ≤ 9223372036854775807) : ∀ (d k i : Nat), i + d = l.length → d < k → spec_l08Code.l0 k lo l i p a b = some (if (l.drop i).all (fun x => decide (lo ≤ x ∧ x ≤ p - 1)) = true then 0 else 2)
  | 0, k, i, hd, hk => by
    obtain ⟨k, rfl⟩ : ∃ m, k = m + 1 := ⟨k - 1, by omega⟩
    simp only [spec_l08Code.l0]
    rw [if_neg (by omega), List.drop_eq_nil_of_le (by omega)]; simp
  | d + 1, k, i, hd, hk => by
    obtain ⟨k, rfl⟩ : ∃ m, k = m + 1 := ⟨k - 1, by omega⟩
    have hi : i < l.length := by omega
    simp only [spec_l08Code.l0]
    rw [if_pos (by omega), if_pos (by omega), wrap_id (by omega) (by omega), wrap_id (by omega) (by omega), rd_nat hi, l01In_eq, List.drop_eq_getElem_cons hi]
    simp only [Option.bind_some, List.all_cons]
    by_cases h : lo ≤ l[i] ∧ l[i] ≤ p - 1
    · rw [if_pos (by simpa using h)]
      have := l08Code_l0 p lo a b l hl hp hp1 d k (i + 1) (by omega) (by omega)
      rw [show (i : Int) + 1 = ((i + 1 : Nat) : Int) from rfl, this]
      simp [h]
    · rw [if_neg (by simpa using h)]
      simp only [decide_eq_false h, Bool.false_and]
      rfl
theorem l08Code_eq (p lo : Int) (a b l : List Int) (hl : l.length ≤ 100) (k : Nat) (hk : 300 ≤ k) : spec_l08Code.f k p a b lo l = some (if jacB p a b = true then if l.all (fun x => decide (lo ≤ x ∧ x ≤ p - 1)) = true then 0 else 2 else 1) := by
  unfold spec_l08Code.f
  rw [l03Is_eq p a b k (by omega)]
  simp only [Option.bind_some]
  by_cases h : jacB p a b = true
  · have hp := (jacB_iff.1 h).prime.1
    have hp1 := (jacB_iff.1 h).prime.2.1
    rw [if_pos h, if_pos h]
    have := l08Code_l0 p lo a b l hl (by omega) (by omega) l.length k 0 (by omega) (by omega)
    simpa using this
  · rw [if_neg h, if_neg h]
theorem spec_StepOfJacobi_eq (p : Int) (a b : List Int) (c : Int) (k : Nat) (hk : 300 ≤ k) : spec_StepOfJacobi.f k p a b c = some (stepAns p a b c) := by
  unfold spec_StepOfJacobi.f stepAns
  rw [l08Code_eq p 0 a b [c] (by simp) k hk]
  simp only [Option.bind_some]
  by_cases h : jacB p a b = true
  · rw [if_pos h, if_pos h]
    by_cases hc : 0 ≤ c ∧ c ≤ p - 1
    · obtain ⟨z, h1, h2⟩ := l08Step_eq (jacB_iff.1 h) hc.1 (show c < p by omega) k (by omega)
      rw [if_pos (by simpa using hc), if_pos hc, h1]
      simp only [Option.bind_some]
      cases hs : stepR p c a b with
      | none => rw [hs] at h2; simp only at h2; rw [h2]; simp
      | some s => rw [hs] at h2; simp only at h2; rw [h2]; simp
    · rw [if_neg (by simpa using hc), if_neg hc]; simp; omega
  · rw [if_neg h, if_neg h]; simp
end Go.Proofs.Ytaclapojgdekpaa.Pl
