/- Part of the proof of the law FnExactInverseTriangle. -/
import Derived.Test.YtaclapojgdekpaaCInverseTrianglePlBase
import Derived.Test.YtaclapojgdekpaaCInverseTriangleX10
import Derived.Test.YtaclapojgdekpaaCInverseTriangleX9
namespace Go.Proofs.Ytaclapojgdekpaa.Pl
open Go.RowKit Go.Proofs.YtaclapojgdekpaaW.PrintWords Go.Proofs.YtaclapojgdekpaaW.PrintMore Go.Proofs.Ytaclapojgdekpaa.X
set_option linter.unusedVariables false
set_option linter.unusedSimpArgs false
theorem rdL_nat {l : List (List Int)} {i : Nat} (h : i < l.length) : rd_L1 l (i : Int) = l[i] := by simp [rd_L1, h]
theorem eqSS_l0 (l : List (List Int)) (hl : l.length ≤ 1000) (hr : ∀ r ∈ l, r.length ≤ 1000) : ∀ (d i K : Nat), i + d = l.length → d + 1001 < K → laws_eqInt64SS.l0 K l l i = some true
  | 0, i, K, hd, hK => by
    obtain ⟨K, rfl⟩ : ∃ m, K = m + 1 := ⟨K - 1, by omega⟩
    simp only [laws_eqInt64SS.l0]
    rw [if_neg (by omega)]
  | d + 1, i, K, hd, hK => by
    obtain ⟨K, rfl⟩ : ∃ m, K = m + 1 := ⟨K - 1, by omega⟩
    have hi : i < l.length := by omega
    have h1 := hr l[i] (List.getElem_mem hi)
    simp only [laws_eqInt64SS.l0]
    rw [if_pos (by omega), if_pos (by omega), if_pos (by omega), rdL_nat hi, eqInt64S_refl _ _ (by omega) (by omega), Option.bind_some, if_pos rfl, wrap_id (by omega) (by omega)]
    exact eqSS_l0 l hl hr d (i + 1) K (by omega) (by omega)
theorem eqInt64SS_refl (l : List (List Int)) (hl : l.length ≤ 1000) (hr : ∀ r ∈ l, r.length ≤ 1000) (K : Nat) (hK : 2002 ≤ K) : laws_eqInt64SS.f K l l = some true := by
  unfold laws_eqInt64SS.f
  rw [if_pos rfl]
  exact eqSS_l0 l hl hr l.length 0 K (by omega) (by omega)
def totS (m : Int) : List (List Int) → Int
  | [] => m
  | r :: rs => totS (m + r.length) rs
def marksS (m : Int) : List (List Int) → List (List Int)
  | [] => []
  | r :: rs => marks m r.length :: marksS (m + r.length) rs
theorem marksS_length : ∀ (l : List (List Int)) (m : Int), (marksS m l).length = l.length
  | [], _ => rfl
  | r :: rs, m => by simp [marksS, marksS_length rs]
theorem totS_ge : ∀ (l : List (List Int)) (m : Int), m ≤ totS m l
  | [], m => Int.le_refl m
  | r :: rs, m => Int.le_trans (by omega) (totS_ge rs (m + r.length))
theorem markSS_eq : ∀ (l : List (List Int)) (m : Int) (K : Nat), 0 ≤ m → m ≤ 1000000000 → l.length ≤ 1000 → (∀ r ∈ l, r.length ≤ 1000) → m + 1000 * l.length ≤ 1000000000 → 1001 ≤ K → laws_markInt64SS.f K l m = some (totS m l, marksS m l)
  | [], m, K, h0, h1, hl, hr, hm, hK => rfl
  | r :: rs, m, K, h0, h1, hl, hr, hm, hK => by
    have hr1 := hr r List.mem_cons_self
    simp only [List.length_cons] at hl hm
    simp only [laws_markInt64SS.f]
    rw [markInt64S_eq r m K h0 (by omega) (by omega), Option.bind_some, markSS_eq rs (m + r.length) K (by omega) (by omega) (by omega) (fun q hq => hr q (List.mem_cons_of_mem _ hq)) (by omega) hK, Option.bind_some]
    rfl
theorem heldSS_l0 (l : List (List Int)) (hl : l.length ≤ 1000) : ∀ (done todo : List (List Int)) (m : Int) (K : Nat), l = done ++ todo → 0 ≤ m → (∀ r ∈ todo, r.length ≤ 1000 ∧ True) → m + 1000 * todo.length ≤ 1000000000 → ∀ (pre rows : List (List Int)), rows = pre ++ marksS m todo → pre.length = done.length → todo.length + 1002 ≤ K → laws_heldInt64SS.l0 K rows m (done.length : Int) = some (totS m todo)
  | done, [], m, K, he, h0, hr, hm, pre, rows, hrow, hp, hK => by
    obtain ⟨K, rfl⟩ : ∃ m, K = m + 1 := ⟨K - 1, by omega⟩
    subst hrow
    simp only [laws_heldInt64SS.l0, marksS, List.append_nil]
    rw [if_neg (by omega)]
    rfl
  | done, r :: rs, m, K, he, h0, hr, hm, pre, rows, hrow, hp, hK => by
    obtain ⟨K, rfl⟩ : ∃ m, K = m + 1 := ⟨K - 1, by omega⟩
    have hr1 := (hr r List.mem_cons_self).1
    have hdl : done.length + (rs.length + 1) = l.length := by rw [he]; simp
    simp only [List.length_cons] at hm hK
    have hlen : rows.length = pre.length + (rs.length + 1) := by rw [hrow, List.length_append]; simp [marksS, marksS_length]
    have hget : rd_L1 rows (done.length : Int) = marks m r.length := by
      rw [rdL_nat (by omega)]
      subst hrow
      rw [List.getElem_append_right (by omega)]
      simp [marksS, hp]
    have := totS_ge rs (m + r.length)
    simp only [laws_heldInt64SS.l0]
    rw [if_pos (by omega), if_pos (by omega), hget, heldInt64S_eq r.length m K h0 (by omega) (by omega), Option.bind_some, if_neg (by omega), wrap_id (by omega) (by omega), show ((done.length : Int) + 1) = (((done ++ [r]).length : Nat) : Int) by simp]
    exact heldSS_l0 l hl (done ++ [r]) rs (m + r.length) K (by rw [he]; simp) (by omega) (fun q hq => hr q (List.mem_cons_of_mem _ hq)) (by omega) (pre ++ [marks m r.length]) rows (by rw [hrow]; simp [marksS]) (by simp [hp]) (by omega)
theorem heldSS_eq (l : List (List Int)) (m : Int) (K : Nat) (h0 : 0 ≤ m) (hl : l.length ≤ 1000) (hr : ∀ r ∈ l, r.length ≤ 1000) (hm : m + 1000 * l.length ≤ 1000000000) (hK : 2002 ≤ K) : laws_heldInt64SS.f K (marksS m l) m = some (totS m l) := by
  have := heldSS_l0 l hl [] l m K rfl h0 (fun r h => ⟨hr r h, trivial⟩) hm [] (marksS m l) rfl rfl (by omega)
  exact this
end Go.Proofs.Ytaclapojgdekpaa.Pl
