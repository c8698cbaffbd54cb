/- The pure statement of the law FnExactStepOfJacobi: for every input some fuel makes the law answer true; no conditions but the ranges of the types. -/
import Derived.Test.YtaclapojgdekpaaCStepOfJacobiPlJLaw
import Derived.Test.YtaclapojgdekpaaCStepOfJacobiPlStep
import Derived.Test.YtaclapojgdekpaaCStepOfJacobiX13
namespace Go.Proofs.Ytaclapojgdekpaa.Pure
open Go.RowKit Go.Proofs.YtaclapojgdekpaaW.PrintWords Go.Proofs.Ytaclapojgdekpaa.X Go.Proofs.Ytaclapojgdekpaa.Pl
set_option linter.unusedVariables false
set_option linter.unusedSimpArgs false
theorem FnExactStepOfJacobi (p : Int) (a b : List Int) (c : Int) (w0 : (Lit.int .i64 p).wf = true) (ha : a.length ≤ maxLen) (wa : ∀ n ∈ a, (Lit.int .i64 n).wf = true) (hb : b.length ≤ maxLen) (wb : ∀ n ∈ b, (Lit.int .i64 n).wf = true) (wc : (Lit.int .i64 c).wf = true) :
    ∃ k, laws_FnExactStepOfJacobi.f k p a b c = some true := by
  have hmax : maxLen ≤ 9223372036854775807 := by decide
  refine ⟨2000000, ?_⟩
  unfold laws_FnExactStepOfJacobi.f
  rw [szJacobi_eq p a b 1048576 (by omega) (by omega) (by omega) (by omega), Option.bind_some]
  by_cases hs : (a.length : Int) + b.length ≤ 1048576
  · rw [if_pos hs, if_neg (by omega)]
    have hlen := stepAns_length p a b c
    have hto := fun k hk => toJacobi_eq p a b k (by omega) (by omega) hk
    have hsp := fun k hk => spec_StepOfJacobi_eq p a b c k hk
    have him := fun k hk => StepOfJacobi_eq p a b c k hk
    have he := fun k hk => eqJacobi_refl p a b k (by omega) (by omega) hk
    have hm := fun k hk => markJacobi_eq p a b 1 k (by omega) (by omega) (by omega) (by omega) hk
    generalize hz : stepAns p a b c = z at *
    obtain ⟨z1, z2, z3, z4⟩ := z
    simp only at hlen
    have he2 := fun k hk => eqJacobi_refl z1 z2 z3 k (by omega) (by omega) hk
    have hm2 := fun k hk => markJacobi_eq z1 z2 z3 1 k (by omega) (by omega) (by omega) (by omega) hk
    have hh2 := fun k hk => heldJacobi_eq z1 z2.length z3.length 1 k (by omega) (by omega) (by omega) (by omega) hk
    have n1 : ¬ (1 + (a.length : Int) + b.length < 0) := by omega
    have n2 : ¬ (1 + (z2.length : Int) + z3.length < 0) := by omega
    simp [hto, hsp, him, he, hm, he2, hm2, hh2, laws_FnExactStepOfJacobi.j0, laws_FnExactStepOfJacobi.j1, laws_FnExactStepOfJacobi.j2, n1, n2]
  · rw [if_neg hs, if_pos (by omega)]
end Go.Proofs.Ytaclapojgdekpaa.Pure
