/- The pure statement of the law FnExactConnectJacobi: for every input some fuel makes the law answer true; no conditions but the ranges of the types. -/
import Derived.Test.YtaclapojgdekpaaCConnectJacobiPlBase
import Derived.Test.YtaclapojgdekpaaCConnectJacobiPlConn
import Derived.Test.YtaclapojgdekpaaCConnectJacobiPlJLaw
import Derived.Test.YtaclapojgdekpaaCConnectJacobiX24
namespace Go.Proofs.Ytaclapojgdekpaa.Pure
open Go.RowKit Go.Proofs.YtaclapojgdekpaaW.PrintWords Go.Proofs.Ytaclapojgdekpaa.X Go.Proofs.Ytaclapojgdekpaa.Pl
set_option linter.unusedVariables false
set_option linter.unusedSimpArgs false
theorem FnExactConnectJacobi (p : Int) (a b : List Int) (q : Int) (c d : List Int) (j : Int) (w0 : (Lit.int .i64 p).wf = true) (ha : a.length ≤ maxLen) (wa : ∀ n ∈ a, (Lit.int .i64 n).wf = true) (hb : b.length ≤ maxLen) (wb : ∀ n ∈ b, (Lit.int .i64 n).wf = true)
    (w1 : (Lit.int .i64 q).wf = true) (hc : c.length ≤ maxLen) (wc : ∀ n ∈ c, (Lit.int .i64 n).wf = true) (hd : d.length ≤ maxLen) (wd : ∀ n ∈ d, (Lit.int .i64 n).wf = true) (wj : (Lit.int .i64 j).wf = true) :
    ∃ k, laws_FnExactConnectJacobi.f k p a b q c d j = some true := by
  have hmax : maxLen ≤ 9223372036854775807 := by decide
  refine ⟨2000000, ?_⟩
  unfold laws_FnExactConnectJacobi.f
  rw [szJacobi_eq p a b 1048576 (by omega) (by omega) (by omega) (by omega), Option.bind_some]
  by_cases hs : (a.length : Int) + b.length ≤ 1048576
  · rw [if_pos hs, if_neg (by omega), szJacobi_eq q c d _ (by omega) (by omega) (by omega) (by omega), Option.bind_some]
    by_cases hs2 : (c.length : Int) + d.length ≤ 1048576 - a.length - b.length
    · rw [if_pos hs2, if_neg (by omega)]
      have hlen := connAns_length p a b q c d j
      have hto := fun k hk => toJacobi_eq p a b k (by omega) (by omega) hk
      have hto2 := fun k hk => toJacobi_eq q c d k (by omega) (by omega) hk
      have hsp := fun k hk => spec_ConnectJacobi_eq p a b q c d j k hk
      have him := fun k hk => ConnectJacobi_eq p a b q c d j k hk
      have he := fun k hk => eqJacobi_refl p a b k (by omega) (by omega) hk
      have he1 := fun k hk => eqJacobi_refl q c d k (by omega) (by omega) hk
      have hm := fun k hk => markJacobi_eq p a b 1 k (by omega) (by omega) (by omega) (by omega) hk
      have hm1 := fun k hk => markJacobi_eq q c d (1 + a.length + b.length) k (by omega) (by omega) (by omega) (by omega) hk
      generalize hz : connAns p a b q c d j = z at *
      obtain ⟨z1, z2⟩ := z
      simp only at hlen
      have he2 := fun k hk => eqInt64S_refl z1 k (by omega) hk
      have hm2 := fun k hk => markInt64S_eq z1 1 k (by omega) (by omega) hk
      have hh2 := fun k hk => heldInt64S_eq z1.length 1 k (by omega) (by omega) hk
      have n1 : ¬ (1 + (a.length : Int) + b.length + c.length + d.length < 0) := by omega
      have n2 : ¬ (1 + (z1.length : Int) < 0) := by omega
      have q0 : z1.length < 2000000 := by omega
      have q1 : z1.length < 1999999 := by omega
      have q2 : z1.length < 1999998 := by omega
      have q3 : z1.length < 1999997 := by omega
      simp [hto, hto2, hsp, him, he, he1, hm, hm1, he2, hm2, hh2, laws_FnExactConnectJacobi.j0, laws_FnExactConnectJacobi.j1, laws_FnExactConnectJacobi.j2, n1, n2, q0, q1, q2, q3]
    · rw [if_neg hs2, if_pos (by omega)]
  · rw [if_neg hs, if_pos (by omega)]
end Go.Proofs.Ytaclapojgdekpaa.Pure
