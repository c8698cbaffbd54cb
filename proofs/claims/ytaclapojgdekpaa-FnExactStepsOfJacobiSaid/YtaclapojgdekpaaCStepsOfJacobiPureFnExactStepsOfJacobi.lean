/- The pure statement of the law FnExactStepsOfJacobi: for every input some fuel makes the law answer true; no conditions but the ranges of the types. -/
import Derived.Test.YtaclapojgdekpaaCStepsOfJacobiPlBase
import Derived.Test.YtaclapojgdekpaaCStepsOfJacobiPlJLaw
import Derived.Test.YtaclapojgdekpaaCStepsOfJacobiPlSteps
import Derived.Test.YtaclapojgdekpaaCStepsOfJacobiXHStepsLaw
namespace Go.Proofs.Ytaclapojgdekpaa.Pure
open Go.RowKit Go.Proofs.YtaclapojgdekpaaW.PrintWords Go.Proofs.Ytaclapojgdekpaa.X Go.Proofs.Ytaclapojgdekpaa.Pl
set_option linter.unusedVariables false
set_option linter.unusedSimpArgs false
theorem FnExactStepsOfJacobi (p : Int) (a b : List Int) (c n : Int) (w0 : (Lit.int .i64 p).wf = true) (ha : a.length ≤ maxLen) (wa : ∀ n ∈ a, (Lit.int .i64 n).wf = true) (hb : b.length ≤ maxLen) (wb : ∀ n ∈ b, (Lit.int .i64 n).wf = true) (wc : (Lit.int .i64 c).wf = true) (wn : (Lit.int .i64 n).wf = true) :
    ∃ k, laws_FnExactStepsOfJacobi.f k p a b c n = some true := by
  have hmax : maxLen ≤ 9223372036854775807 := by decide
  refine ⟨2000000, ?_⟩
  unfold laws_FnExactStepsOfJacobi.f
  rw [if_pos]
  have hsz := szJacobi_eq p a b 1048576 (by omega) (by omega) (by omega) (by omega)
  by_cases hs : (a.length : Int) + b.length ≤ 1048576
  · rw [if_pos hs] at hsz
    right
    obtain ⟨hl, hr⟩ := stepsAns_length p a b c n
    have hto := toJacobi_eq p a b 2000000 (by omega) (by omega) (by omega)
    have hsp := spec_StepsOfJacobi_eq p a b c n 2000000 (by omega)
    have him := StepsOfJacobi_eq p a b c n 2000000 (by omega)
    have he := eqJacobi_refl p a b 2000000 (by omega) (by omega) (by omega)
    have hm := markJacobi_eq p a b 1 2000000 (by omega) (by omega) (by omega) (by omega) (by omega)
    generalize stepsAns p a b c n = z at *
    obtain ⟨tri, code⟩ := z
    simp only at hl hr
    have hr2 : ∀ r ∈ tri, r.f1.length ≤ 1000 ∧ r.f2.length ≤ 1000 := fun r h => by have := hr r h; omega
    have he2 := eqJacobiS_refl tri (by omega) hr2 2000000 (by omega)
    have hm2 := markJS_eq tri 1 2000000 (by omega) (by omega) (by omega) hr2 (by omega) (by omega)
    have hh2 := heldJS_eq tri 1 2000000 (by omega) (by omega) hr2 (by omega) (by omega)
    have ht := totJ_ge tri 1
    exact ⟨_, _, _, tri, _, code, _, _, hsz, by omega, hto, hsp, him, he2, he, hm, by omega, hm2, hh2, by omega⟩
  · rw [if_neg hs] at hsz
    exact .inl ⟨_, hsz, by omega⟩
end Go.Proofs.Ytaclapojgdekpaa.Pure
