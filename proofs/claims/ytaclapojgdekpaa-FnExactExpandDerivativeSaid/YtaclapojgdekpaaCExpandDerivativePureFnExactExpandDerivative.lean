/- The pure statement of the law FnExactExpandDerivative: for every input some fuel makes the law answer true; no conditions but the ranges of the types. -/
import Derived.Test.YtaclapojgdekpaaCExpandDerivativePlBase
import Derived.Test.YtaclapojgdekpaaCExpandDerivativePlJLaw
import Derived.Test.YtaclapojgdekpaaCExpandDerivativePlProd
import Derived.Test.YtaclapojgdekpaaCExpandDerivativeX33
namespace Go.Proofs.Ytaclapojgdekpaa.Pure
open Go.RowKit Go.Proofs.YtaclapojgdekpaaW.PrintWords Go.Proofs.Ytaclapojgdekpaa.X Go.Proofs.Ytaclapojgdekpaa.Pl
set_option linter.unusedVariables false
set_option linter.unusedSimpArgs false
theorem FnExactExpandDerivative (p : Int) (a b : List Int) (c : Int) (w0 : (Lit.int .i64 p).wf = true) (ha : a.length ≤ maxLen) (wa : ∀ n ∈ a, (Lit.int .i64 n).wf = true) (hb : b.length ≤ maxLen) (wb : ∀ n ∈ b, (Lit.int .i64 n).wf = true) (wc : (Lit.int .i64 c).wf = true) :
    ∃ k, laws_FnExactExpandDerivative.f k p a b c = some true := by
  have hmax : maxLen ≤ 9223372036854775807 := by decide
  refine ⟨2000000, ?_⟩
  unfold laws_FnExactExpandDerivative.f
  rw [szJacobi_eq p a b 1048576 (by omega) (by omega) (by omega) (by omega), Option.bind_some]
  by_cases hs : (a.length : Int) + b.length ≤ 1048576
  · rw [if_pos hs, if_neg (by omega)]
    have hlen := derAns_length p a b c
    have hto := fun k hk => toJacobi_eq p a b k (by omega) (by omega) hk
    have hsp := fun k hk => spec_ExpandDerivative_eq p a b c k hk
    have him := fun k hk => ExpandDerivative_eq p a b c k hk
    have he := fun k hk => eqJacobi_refl p a b k (by omega) (by omega) hk
    have hm := fun k hk => markJacobi_eq p a b 1 k (by omega) (by omega) (by omega) (by omega) hk
    generalize hz : derAns p a b c = z at *
    obtain ⟨z1, z2⟩ := z
    simp only at hlen
    have he2 := fun k hk => eqInt64S_refl z1 k (by omega) hk
    have hm2 := fun k hk => markInt64S_eq z1 1 k (by omega) (by omega) hk
    have hh2 := fun k hk => heldInt64S_eq z1.length 1 k (by omega) (by omega) hk
    have n1 : ¬ (1 + (a.length : Int) + b.length < 0) := by omega
    have n2 : ¬ (1 + (z1.length : Int) < 0) := by omega
    have q0 : z1.length < 2000000 := by omega
    have q1 : z1.length < 1999999 := by omega
    have q2 : z1.length < 1999998 := by omega
    have q3 : z1.length < 1999997 := by omega
    simp [hto, hsp, him, he, hm, he2, hm2, hh2, laws_FnExactExpandDerivative.j0, laws_FnExactExpandDerivative.j1, laws_FnExactExpandDerivative.j2, n1, n2, q0, q1, q2, q3]
  · rw [if_neg hs, if_pos (by omega)]
end Go.Proofs.Ytaclapojgdekpaa.Pure
