/- The pure statement of the law FnExactValueBy: for every input some fuel makes the law answer true; no conditions but the ranges of the types. -/
import Derived.Test.YtaclapojgdekpaaCValueByPlBase
import Derived.Test.YtaclapojgdekpaaCValueByPlJLaw
import Derived.Test.YtaclapojgdekpaaCValueByPlVal
import Derived.Test.YtaclapojgdekpaaCValueByX36
namespace Go.Proofs.Ytaclapojgdekpaa.Pure
open Go.RowKit Go.Proofs.YtaclapojgdekpaaW.PrintWords Go.Proofs.Ytaclapojgdekpaa.X Go.Proofs.Ytaclapojgdekpaa.Pl
set_option linter.unusedVariables false
set_option linter.unusedSimpArgs false
theorem FnExactValueBy (p : Int) (a b l : List Int) (x : Int) (w0 : (Lit.int .i64 p).wf = true) (ha : a.length ≤ maxLen) (wa : ∀ n ∈ a, (Lit.int .i64 n).wf = true) (hb : b.length ≤ maxLen) (wb : ∀ n ∈ b, (Lit.int .i64 n).wf = true) (hl : l.length ≤ maxLen) (wl : ∀ n ∈ l, (Lit.int .i64 n).wf = true) (wx : (Lit.int .i64 x).wf = true) :
    ∃ k, laws_FnExactValueBy.f k p a b l x = some true := by
  have hmax : maxLen ≤ 9223372036854775807 := by decide
  refine ⟨2000000, ?_⟩
  unfold laws_FnExactValueBy.f
  by_cases hls : (l.length : Int) > 1048576
  · rw [if_pos hls]
  · rw [if_neg hls, szJacobi_eq p a b 1048576 (by omega) (by omega) (by omega) (by omega), Option.bind_some]
    by_cases hs : (a.length : Int) + b.length ≤ 1048576
    · rw [if_pos hs, if_neg (by omega)]
      have hto := fun k hk => toJacobi_eq p a b k (by omega) (by omega) hk
      have htl := fun k hk => toInt64S_eq l k (by omega) hk
      have hsp := fun k hk => spec_ValueBy_eq p a b l x (by omega) (by omega) k hk
      have him := fun k hk => ValueBy_eq p a b l x (by omega) (by omega) k hk
      have he := fun k hk => eqJacobi_refl p a b k (by omega) (by omega) hk
      have hel := fun k hk => eqInt64S_refl l k (by omega) hk
      have k0 : l.length < 2000000 := by omega
      have k1 : l.length < 1999999 := by omega
      simp [hto, htl, hsp, him, he, hel, laws_FnExactValueBy.j0, k0, k1]
    · rw [if_neg hs, if_pos (by omega)]
end Go.Proofs.Ytaclapojgdekpaa.Pure
