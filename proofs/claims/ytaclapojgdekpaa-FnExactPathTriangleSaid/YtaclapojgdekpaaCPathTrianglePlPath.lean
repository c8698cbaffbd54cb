/- Part of the proof of the law FnExactPathTriangle. -/
import Derived.Test.YtaclapojgdekpaaCPathTrianglePlBase
import Derived.Test.YtaclapojgdekpaaCPathTrianglePlJac
import Derived.Test.YtaclapojgdekpaaCPathTrianglePlMul
import Derived.Test.YtaclapojgdekpaaCPathTrianglePlPoly
import Derived.Test.YtaclapojgdekpaaCPathTrianglePlStep
import Derived.Test.YtaclapojgdekpaaCPathTriangleX4
import Derived.Test.YtaclapojgdekpaaCPathTriangleX5
import Derived.Test.YtaclapojgdekpaaCPathTriangleX7
import Derived.Test.YtaclapojgdekpaaCPathTriangleX8
import Derived.Test.YtaclapojgdekpaaCPathTriangleX9
namespace Go.Proofs.Ytaclapojgdekpaa.Pl
open Go.RowKit Go.Proofs.YtaclapojgdekpaaW.PrintWords Go.Proofs.YtaclapojgdekpaaW.PrintMore Go.Proofs.Ytaclapojgdekpaa.X
set_option linter.unusedVariables false
set_option linter.unusedSimpArgs false
def upd (p : Int) (next : List Int) (i : Nat) (v : Int) : List Int := next.set i ((rd next i + v) % p)
theorem upd_length (p : Int) (next : List Int) (i : Nat) (v : Int) : (upd p next i v).length = next.length := by simp [upd]
theorem upd_InL {p : Int} (hp : 0 < p) {next : List Int} (h : InL 0 (p - 1) next) (i : Nat) (v : Int) : InL 0 (p - 1) (upd p next i v) := by
  have := mod_lt (p := p) (x := rd next i + v) hp
  intro x hx
  rcases List.mem_or_eq_of_mem_set hx with h2 | h2
  · exact h x h2
  · rw [h2]; omega
def stH (p : Int) (a b now : List Int) (h : Nat) (next : List Int) : List Int :=
  let y := upd p next h (rd a h * rd now h)
  let y2 := if h + 1 < now.length then upd p y (h + 1) (rd now h) else y
  if 0 < h then upd p y2 (h - 1) (rd b h * rd now h) else y2
theorem stH_length (p : Int) (a b now : List Int) (h : Nat) (next : List Int) : (stH p a b now h next).length = next.length := by
  unfold stH
  simp only
  split <;> split <;> simp [upd_length]
theorem stH_InL {p : Int} (hp : 0 < p) (a b now : List Int) (h : Nat) {next : List Int} (hn : InL 0 (p - 1) next) : InL 0 (p - 1) (stH p a b now h next) := by
  unfold stH
  simp only
  split <;> split <;> (repeat (first | exact hn | apply upd_InL hp))
def row1 (p : Int) (a b now : List Int) : Nat → Nat → List Int → List Int
  | 0, _, next => next
  | d + 1, h, next => row1 p a b now d (h + 1) (stH p a b now h next)
theorem row1_ok {p : Int} (hp : 0 < p) (a b now : List Int) : ∀ (d h : Nat) (next : List Int), InL 0 (p - 1) next → (row1 p a b now d h next).length = next.length ∧ InL 0 (p - 1) (row1 p a b now d h next)
  | 0, h, next, hn => ⟨rfl, hn⟩
  | d + 1, h, next, hn => by
    obtain ⟨h1, h2⟩ := row1_ok hp a b now d (h + 1) _ (stH_InL hp a b now h hn)
    exact ⟨by simp only [row1]; rw [h1, stH_length], h2⟩
def walkL (p : Int) (a b : List Int) : Nat → List Int → List Int
  | 0, now => now
  | n + 1, now => walkL p a b n (row1 p a b now now.length 0 (List.replicate now.length 0))
theorem walkL_ok {p : Int} (hp : 0 < p) (a b : List Int) : ∀ (n : Nat) (now : List Int), InL 0 (p - 1) now → (walkL p a b n now).length = now.length ∧ InL 0 (p - 1) (walkL p a b n now)
  | 0, now, h => ⟨rfl, h⟩
  | n + 1, now, h => by
    obtain ⟨h1, h2⟩ := row1_ok hp a b now now.length 0 (List.replicate now.length 0) (zeros_InL hp _)
    obtain ⟨h3, h4⟩ := walkL_ok hp a b n _ h2
    exact ⟨by simp only [walkL]; rw [h3, h1, List.length_replicate], h4⟩
theorem walk_l1 {p : Int} {a b now : List Int} (h : JacP p a b) (hnow : InL 0 (p - 1) now) (hr : now.length ≤ a.length) (n i : Int) :
    ∀ (d x K F : Nat) (next : List Int), x + d = now.length → F = K + d + 1 → next.length = now.length → InL 0 (p - 1) next →
      impl_Jacobi_walk.l1 F p now.length next n i now now.length x p a b = impl_Jacobi_walk.l0 K (row1 p a b now d x next) p now.length n (wrap64 (i + 1)) p a b
  | 0, x, K, F, next, hd, hF, hl, hn => by
    subst hF
    simp only [impl_Jacobi_walk.l1]
    rw [if_neg (by omega)]
    rfl
  | d + 1, x, K, F, next, hd, hF, hl, hn => by
    obtain ⟨F, rfl⟩ : ∃ m, F = m + 1 := ⟨F - 1, by omega⟩
    have ht := h.top
    have hs := h.same
    have hp := h.prime.1
    have hp1 := h.prime.2.1
    have ha := InL_rd h.ina (i := x) (by omega)
    have hb := InL_rd h.inb (i := x) (by omega)
    have hx := InL_rd hnow (i := x) (by omega)
    have h1 := InL_rd hn (i := x) (by omega)
    have hy : InL 0 (p - 1) (upd p next x (rd a x * rd now x)) := upd_InL (by omega) hn _ _
    have hyl := upd_length p next x (rd a x * rd now x)
    have ih := walk_l1 h hnow hr n i d (x + 1) K F (stH p a b now x next) (by omega) (by omega) (by rw [stH_length]; exact hl) (stH_InL (by omega) a b now x hn)
    simp only [impl_Jacobi_walk.l1]
    rw [if_pos (by omega), if_pos (by omega), if_pos (by omega), if_pos (by omega), if_pos (by omega), term_bound hp1 h1.1 h1.2 ha.1 ha.2 hx.1 hx.2, fmod_eq p _ (by omega) hp1, wrap_id (x := (x : Int) + 1) (by omega) (by omega)]
    simp only [Option.bind_some]
    rw [show next.set ((x : Int)).toNat ((rd next x + rd a x * rd now x) % p) = upd p next x (rd a x * rd now x) from rfl]
    simp only [row1]
    by_cases c1 : x + 1 < now.length
    · have h2 := InL_rd hy (i := x + 1) (by omega)
      have hy2 : InL 0 (p - 1) (upd p (upd p next x (rd a x * rd now x)) (x + 1) (rd now x)) := upd_InL (by omega) hy _ _
      have hyl2 := upd_length p (upd p next x (rd a x * rd now x)) (x + 1) (rd now x)
      rw [if_pos (by omega), if_pos (by omega), if_pos (by omega), show ((x : Int) + 1) = ((x + 1 : Nat) : Int) by omega, wrap_id (x := rd (upd p next x (rd a x * rd now x)) ((x + 1 : Nat) : Int) + rd now x) (by omega) (by omega), fmod_eq p _ (by omega) hp1]
      simp only [Option.bind_some]
      rw [show (upd p next x (rd a x * rd now x)).set (((x + 1 : Nat) : Int)).toNat ((rd (upd p next x (rd a x * rd now x)) ((x + 1 : Nat) : Int) + rd now x) % p) = upd p (upd p next x (rd a x * rd now x)) (x + 1) (rd now x) from rfl]
      by_cases c2 : 0 < x
      · have h3 := InL_rd hy2 (i := x - 1) (by omega)
        rw [if_pos (by omega), wrap_id (x := (x : Int) - 1) (by omega) (by omega), if_pos (by omega), if_pos (by omega), if_pos (by omega), show ((x : Int) - 1) = ((x - 1 : Nat) : Int) by omega, term_bound hp1 h3.1 h3.2 (by omega) hb.2 hx.1 hx.2, fmod_eq p _ (by omega) hp1]
        simp only [Option.bind_some]
        rw [show stH p a b now x next = upd p (upd p (upd p next x (rd a x * rd now x)) (x + 1) (rd now x)) (x - 1) (rd b x * rd now x) by unfold stH; simp only; rw [if_pos c2, if_pos c1]] at ih ⊢
        exact ih
      · rw [if_neg (by omega)]
        rw [show stH p a b now x next = upd p (upd p next x (rd a x * rd now x)) (x + 1) (rd now x) by unfold stH; simp only; rw [if_neg c2, if_pos c1]] at ih ⊢
        exact ih
    · rw [if_neg (by omega)]
      by_cases c2 : 0 < x
      · have h3 := InL_rd hy (i := x - 1) (by omega)
        rw [if_pos (by omega), wrap_id (x := (x : Int) - 1) (by omega) (by omega), if_pos (by omega), if_pos (by omega), if_pos (by omega), show ((x : Int) - 1) = ((x - 1 : Nat) : Int) by omega, term_bound hp1 h3.1 h3.2 (by omega) hb.2 hx.1 hx.2, fmod_eq p _ (by omega) hp1]
        simp only [Option.bind_some]
        rw [show stH p a b now x next = upd p (upd p next x (rd a x * rd now x)) (x - 1) (rd b x * rd now x) by unfold stH; simp only; rw [if_pos c2, if_neg c1]] at ih ⊢
        exact ih
      · rw [if_neg (by omega)]
        rw [show stH p a b now x next = upd p next x (rd a x * rd now x) by unfold stH; simp only; rw [if_neg c2, if_neg c1]] at ih ⊢
        exact ih
theorem walk_l0 {p : Int} {a b : List Int} (h : JacP p a b) : ∀ (n i K : Nat) (now : List Int), i + n ≤ 1000 → InL 0 (p - 1) now → now.length ≤ a.length → n * 20 + 1 ≤ K →
    impl_Jacobi_walk.l0 K now p now.length ((i + n : Nat) : Int) i p a b = some (walkL p a b n now)
  | 0, i, K, now, hi, hn, hr, hK => by
    obtain ⟨K, rfl⟩ : ∃ m, K = m + 1 := ⟨K - 1, by omega⟩
    simp only [impl_Jacobi_walk.l0]
    rw [if_neg (by omega)]
    rfl
  | n + 1, i, K, now, hi, hn, hr, hK => by
    have ht := h.top
    obtain ⟨K, rfl⟩ : ∃ m, K = m + now.length + 1 + 1 := ⟨K - now.length - 2, by omega⟩
    have hp := h.prime.1
    obtain ⟨r1, r2⟩ := row1_ok (p := p) (by omega) a b now now.length 0 (List.replicate now.length 0) (zeros_InL (by omega) _)
    rw [List.length_replicate] at r1
    simp only [impl_Jacobi_walk.l0]
    rw [if_pos (by omega), if_pos (by omega), if_pos (by omega), show ((now.length : Int)).toNat = now.length from rfl]
    have := walk_l1 h hn hr ((i + (n + 1) : Nat) : Int) i now.length 0 K (K + now.length + 1) (List.replicate now.length 0) (by omega) rfl (by simp) (zeros_InL (by omega) _)
    rw [show ((0 : Nat) : Int) = 0 from rfl] at this
    rw [this, wrap_id (by omega) (by omega)]
    have ih := walk_l0 h n (i + 1) K (row1 p a b now now.length 0 (List.replicate now.length 0)) (by omega) r2 (by omega) (by omega)
    rw [r1] at ih
    rw [show ((i + (n + 1) : Nat) : Int) = ((i + 1 + n : Nat) : Int) by omega, show ((i : Int) + 1) = ((i + 1 : Nat) : Int) by omega]
    exact ih
theorem from_eq {p : Int} {a b : List Int} (h : JacP p a b) (n i : Nat) (hn : n ≤ 900) (hi : i < a.length) (K : Nat) (hK : 20000 ≤ K) : impl_Jacobi_from.f K p a b n i a.length = some (walkL p a b n ((List.replicate a.length 0).set i (1 % p))) := by
  have ht := h.top
  have hp := h.prime.1
  have hp1 := h.prime.2.1
  have hm := mod_lt (p := p) (x := 1) (by omega)
  unfold impl_Jacobi_from.f impl_Jacobi_field.f impl_Jacobi_walk.f impl_Jacobi_field.f
  rw [if_pos (by omega), if_pos (by omega)]
  simp only [Option.bind_some]
  rw [fmod_eq p _ (by omega) hp1]
  simp only [Option.bind_some]
  rw [if_pos (by omega), if_pos (by simp; omega), show ((a.length : Int)).toNat = a.length from rfl, show ((i : Int)).toNat = i from rfl]
  have := walk_l0 h n 0 K ((List.replicate a.length 0).set i (1 % p)) (by omega) (InL_set (zeros_InL (by omega) _) hm.1 (by omega)) (by simp) (by omega)
  simp only [Nat.zero_add, show ((0 : Nat) : Int) = 0 from rfl] at this
  rw [this]
  rfl
def triRow (p : Int) (a b : List Int) (n : Nat) : List Int := (walkL p a b n ((List.replicate a.length 0).set 0 (1 % p))).take (n + 1)
def triL (p : Int) (a b : List Int) (n : Nat) : List (List Int) := (List.range n).map (triRow p a b)
theorem triL_succ (p : Int) (a b : List Int) (n : Nat) : triL p a b (n + 1) = triL p a b n ++ [triRow p a b n] := by simp [triL, List.range_succ]
theorem triL_length (p : Int) (a b : List Int) (n : Nat) : (triL p a b n).length = n := by simp [triL]
theorem start_ok {p : Int} {a b : List Int} (h : JacP p a b) : InL 0 (p - 1) ((List.replicate a.length 0).set 0 (1 % p)) := by
  have hp := h.prime.1
  have hm := mod_lt (p := p) (x := 1) (by omega)
  exact InL_set (zeros_InL (by omega) _) hm.1 (by omega)
theorem size_eq (p : Int) (a b : List Int) : impl_Jacobi_size.f p a b = some (a.length : Int) := rfl
theorem clone_eq (l : List Int) (h : l.length ≤ 1000000) : slices_Clone_int64_int64.f l = some l := by
  unfold slices_Clone_int64_int64.f
  rw [if_pos (by omega)]
theorem PathTriangle_l0 {p : Int} {a b : List Int} (h : JacP p a b) : ∀ (d n K : Nat), n + d = a.length → d + 20002 ≤ K → impl_PathTriangle.l0 K (triL p a b n) a.length n p a b = some (triL p a b a.length, 0)
  | 0, n, K, hd, hK => by
    obtain ⟨K, rfl⟩ : ∃ m, K = m + 1 := ⟨K - 1, by omega⟩
    simp only [impl_PathTriangle.l0]
    rw [if_neg (by omega), show n = a.length by omega]
  | d + 1, n, K, hd, hK => by
    obtain ⟨K, rfl⟩ : ∃ m, K = m + 1 := ⟨K - 1, by omega⟩
    have ht := h.top
    have hp := h.prime.1
    have hl := (walkL_ok (p := p) (by omega) a b n _ (start_ok h)).1
    rw [List.length_set, List.length_replicate] at hl
    simp only [impl_PathTriangle.l0]
    rw [if_pos (by omega), size_eq]
    simp only [Option.bind_some]
    have hf := from_eq h n 0 (by omega) (by omega) K (by omega)
    rw [show ((0 : Nat) : Int) = 0 from rfl] at hf
    generalize hv : walkL p a b n ((List.replicate a.length 0).set 0 (1 % p)) = v at hf hl
    rw [hf, Option.bind_some, wrap_id (by omega) (by omega), if_pos (by omega), if_pos (by rw [hl]; omega), show ((n : Int) + 1).toNat = n + 1 by omega]
    rw [clone_eq _ (by rw [List.length_take]; omega), Option.bind_some, if_pos (by rw [triL_length]; omega), show ((n : Int) + 1) = ((n + 1 : Nat) : Int) by omega]
    have hrow : v.take (n + 1) = triRow p a b n := by rw [← hv]; rfl
    rw [hrow, ← triL_succ]
    exact PathTriangle_l0 h d (n + 1) K (by omega) (by omega)
noncomputable def triAns (p : Int) (a b : List Int) : List (List Int) × Int := if jacB p a b = true then (triL p a b a.length, 0) else ([], 1)
theorem PathTriangle_eq (p : Int) (a b : List Int) (K : Nat) (hK : 30000 ≤ K) : impl_PathTriangle.f K p a b = some (triAns p a b) := by
  unfold impl_PathTriangle.f triAns
  rw [jacobiCode_eq p a b _ _ (by omega)]
  simp only [Option.bind_some]
  by_cases h : jacB p a b = true
  · have hj := jacB_iff.1 h
    have ht := hj.top
    simp only [h, if_true]
    rw [size_eq]
    simp only [Option.bind_some]
    exact PathTriangle_l0 hj a.length 0 K (by omega) (by omega)
  · rw [if_neg h, if_neg h, if_neg (by decide)]
theorem Sums_l1 {p : Int} {a b now : List Int} (h : JacP p a b) (hnow : InL 0 (p - 1) now) (hr : now.length ≤ a.length) (n : Int) :
    ∀ (d x K F : Nat) (next : List Int), x + d = now.length → F = K + d + 1 → next.length = now.length → InL 0 (p - 1) next →
      spec_l09Sums.l1 F n now.length p now next x p a b = spec_l09Sums.l0 K (wrap64 (n - 1)) now.length p (row1 p a b now d x next) p a b
  | 0, x, K, F, next, hd, hF, hl, hn => by
    subst hF
    simp only [spec_l09Sums.l1]
    rw [if_neg (by omega)]
    rfl
  | d + 1, x, K, F, next, hd, hF, hl, hn => by
    obtain ⟨F, rfl⟩ : ∃ m, F = m + 1 := ⟨F - 1, by omega⟩
    have ht := h.top
    have hs := h.same
    have hp := h.prime.1
    have hp1 := h.prime.2.1
    have ha := InL_rd h.ina (i := x) (by omega)
    have hb := InL_rd h.inb (i := x) (by omega)
    have hx := InL_rd hnow (i := x) (by omega)
    have h1 := InL_rd hn (i := x) (by omega)
    have hy : InL 0 (p - 1) (upd p next x (rd a x * rd now x)) := upd_InL (by omega) hn _ _
    have hyl := upd_length p next x (rd a x * rd now x)
    have ih := Sums_l1 h hnow hr n d (x + 1) K F (stH p a b now x next) (by omega) (by omega) (by rw [stH_length]; exact hl) (stH_InL (by omega) a b now x hn)
    have b1 := prod_bound ha.1 (by omega) hx.1 (by omega)
    have b2 := prod_bound (show 0 ≤ rd b x by omega) (by omega) hx.1 (by omega)
    simp only [spec_l09Sums.l1]
    rw [if_pos (by omega), if_pos (by omega), if_pos (by omega), if_pos (by omega), if_pos (by omega), if_neg (by omega), term_bound hp1 h1.1 h1.2 hx.1 hx.2 ha.1 ha.2, Int.mul_comm (rd now x) (rd a x), tmod_pos (by omega), wrap_id (x := (x : Int) + 1) (by omega) (by omega), Option.bind_some]
    rw [show next.set ((x : Int)).toNat ((rd next x + rd a x * rd now x) % p) = upd p next x (rd a x * rd now x) from rfl]
    simp only [row1]
    by_cases c1 : x + 1 < now.length
    · have h2 := InL_rd hy (i := x + 1) (by omega)
      have hy2 : InL 0 (p - 1) (upd p (upd p next x (rd a x * rd now x)) (x + 1) (rd now x)) := upd_InL (by omega) hy _ _
      have hyl2 := upd_length p (upd p next x (rd a x * rd now x)) (x + 1) (rd now x)
      rw [if_pos (by omega), if_pos (by omega), if_pos (by omega), show ((x : Int) + 1) = ((x + 1 : Nat) : Int) by omega, wrap_id (x := rd (upd p next x (rd a x * rd now x)) ((x + 1 : Nat) : Int) + rd now x) (by omega) (by omega), tmod_pos (by omega), Option.bind_some]
      rw [show (upd p next x (rd a x * rd now x)).set (((x + 1 : Nat) : Int)).toNat ((rd (upd p next x (rd a x * rd now x)) ((x + 1 : Nat) : Int) + rd now x) % p) = upd p (upd p next x (rd a x * rd now x)) (x + 1) (rd now x) from rfl]
      by_cases c2 : 0 < x
      · have h3 := InL_rd hy2 (i := x - 1) (by omega)
        rw [if_pos (by omega), wrap_id (x := (x : Int) - 1) (by omega) (by omega), if_pos (by omega), if_pos (by omega), if_pos (by omega), show ((x : Int) - 1) = ((x - 1 : Nat) : Int) by omega, term_bound hp1 h3.1 h3.2 hx.1 hx.2 (by omega) hb.2, Int.mul_comm (rd now x) (rd b x), tmod_pos (by omega)]
        rw [show stH p a b now x next = upd p (upd p (upd p next x (rd a x * rd now x)) (x + 1) (rd now x)) (x - 1) (rd b x * rd now x) by unfold stH; simp only; rw [if_pos c2, if_pos c1]] at ih ⊢
        exact ih
      · rw [if_neg (by omega)]
        rw [show stH p a b now x next = upd p (upd p next x (rd a x * rd now x)) (x + 1) (rd now x) by unfold stH; simp only; rw [if_neg c2, if_pos c1]] at ih ⊢
        exact ih
    · rw [if_neg (by omega)]
      by_cases c2 : 0 < x
      · have h3 := InL_rd hy (i := x - 1) (by omega)
        rw [if_pos (by omega), wrap_id (x := (x : Int) - 1) (by omega) (by omega), if_pos (by omega), if_pos (by omega), if_pos (by omega), show ((x : Int) - 1) = ((x - 1 : Nat) : Int) by omega, term_bound hp1 h3.1 h3.2 hx.1 hx.2 (by omega) hb.2, Int.mul_comm (rd now x) (rd b x), tmod_pos (by omega)]
        rw [show stH p a b now x next = upd p (upd p next x (rd a x * rd now x)) (x - 1) (rd b x * rd now x) by unfold stH; simp only; rw [if_pos c2, if_neg c1]] at ih ⊢
        exact ih
      · rw [if_neg (by omega)]
        rw [show stH p a b now x next = upd p next x (rd a x * rd now x) by unfold stH; simp only; rw [if_neg c2, if_neg c1]] at ih ⊢
        exact ih
theorem Sums_l0 {p : Int} {a b : List Int} (h : JacP p a b) : ∀ (n K : Nat) (now : List Int), n ≤ 1000 → InL 0 (p - 1) now → now.length ≤ a.length → n * 20 + 1 ≤ K →
    spec_l09Sums.l0 K n now.length p now p a b = some (walkL p a b n now)
  | 0, K, now, hi, hn, hr, hK => by
    obtain ⟨K, rfl⟩ : ∃ m, K = m + 1 := ⟨K - 1, by omega⟩
    simp only [spec_l09Sums.l0]
    rw [if_neg (by omega)]
    rfl
  | n + 1, K, now, hi, hn, hr, hK => by
    have ht := h.top
    obtain ⟨K, rfl⟩ : ∃ m, K = m + now.length + 1 + 1 := ⟨K - now.length - 2, by omega⟩
    have hp := h.prime.1
    obtain ⟨r1, r2⟩ := row1_ok (p := p) (by omega) a b now now.length 0 (List.replicate now.length 0) (zeros_InL (by omega) _)
    rw [List.length_replicate] at r1
    simp only [spec_l09Sums.l0]
    rw [if_pos (by omega), if_pos (by omega), if_pos (by omega), show ((now.length : Int)).toNat = now.length from rfl]
    have := Sums_l1 h hn hr ((n + 1 : Nat) : Int) now.length 0 K (K + now.length + 1) (List.replicate now.length 0) (by omega) rfl (by simp) (zeros_InL (by omega) _)
    rw [show ((0 : Nat) : Int) = 0 from rfl] at this
    rw [this, wrap_id (by omega) (by omega), show (((n + 1 : Nat) : Int) - 1) = (n : Int) by omega]
    have ih := Sums_l0 h n K (row1 p a b now now.length 0 (List.replicate now.length 0)) (by omega) r2 (by omega) (by omega)
    rw [r1] at ih
    exact ih
theorem Sums_eq {p : Int} {a b : List Int} (h : JacP p a b) (n : Nat) (hn : n ≤ 900) (K : Nat) (hK : 20001 ≤ K) : spec_l09Sums.f K p a b n 0 a.length = some (walkL p a b n ((List.replicate a.length 0).set 0 (1 % p))) := by
  obtain ⟨K, rfl⟩ : ∃ m, K = m + 1 := ⟨K - 1, by omega⟩
  have ht := h.top
  have h1 := h.one
  have hp := h.prime.1
  have hp1 := h.prime.2.1
  unfold spec_l09Sums.f
  rw [if_pos (by omega), if_pos (by omega), Option.bind_some, if_pos (by omega), if_neg (by omega), if_pos (by omega), if_pos (by simp; omega)]
  simp only [spec_l09Sums.j0]
  rw [show ((a.length : Int)).toNat = a.length from rfl, show ((0 : Int)).toNat = 0 from rfl]
  have := Sums_l0 h n K ((List.replicate a.length 0).set 0 (1 % p)) (by omega) (start_ok h) (by simp) (by omega)
  rw [List.length_set, List.length_replicate] at this
  exact this
theorem spec_PathTriangle_l0 {p : Int} {a b : List Int} (h : JacP p a b) : ∀ (d n K : Nat), n + d = a.length → d + 20003 ≤ K → spec_PathTriangle.l0 K (triL p a b n) a.length n p a b = some (triL p a b a.length, 0)
  | 0, n, K, hd, hK => by
    obtain ⟨K, rfl⟩ : ∃ m, K = m + 1 := ⟨K - 1, by omega⟩
    simp only [spec_PathTriangle.l0]
    rw [if_neg (by omega), show n = a.length by omega]
  | d + 1, n, K, hd, hK => by
    obtain ⟨K, rfl⟩ : ∃ m, K = m + 1 := ⟨K - 1, by omega⟩
    have ht := h.top
    have hp := h.prime.1
    have hl := (walkL_ok (p := p) (by omega) a b n _ (start_ok h)).1
    rw [List.length_set, List.length_replicate] at hl
    simp only [spec_PathTriangle.l0]
    rw [if_pos (by omega)]
    have hf := Sums_eq h n (by omega) K (by omega)
    generalize hv : walkL p a b n ((List.replicate a.length 0).set 0 (1 % p)) = v at hf hl
    rw [hf, Option.bind_some, wrap_id (by omega) (by omega), if_pos (by omega), if_pos (by rw [hl]; omega), show ((n : Int) + 1).toNat = n + 1 by omega, Own_eq _ (by rw [List.length_take]; omega), Option.bind_some, if_pos (by rw [triL_length]; omega), show ((n : Int) + 1) = ((n + 1 : Nat) : Int) by omega]
    have hrow : v.take (n + 1) = triRow p a b n := by rw [← hv]; rfl
    rw [hrow, ← triL_succ]
    exact spec_PathTriangle_l0 h d (n + 1) K (by omega) (by omega)
theorem spec_PathTriangle_eq (p : Int) (a b : List Int) (K : Nat) (hK : 30000 ≤ K) : spec_PathTriangle.f K p a b = some (triAns p a b) := by
  unfold spec_PathTriangle.f triAns
  rw [l03Is_eq p a b _ (by omega), Option.bind_some]
  by_cases h : jacB p a b = true
  · have hj := jacB_iff.1 h
    have ht := hj.top
    rw [if_pos h, if_pos h]
    exact spec_PathTriangle_l0 hj a.length 0 K (by omega) (by omega)
  · rw [if_neg h, if_neg h]
theorem triAns_length (p : Int) (a b : List Int) : (triAns p a b).1.length ≤ 12 ∧ ∀ r ∈ (triAns p a b).1, r.length ≤ 12 := by
  unfold triAns
  split
  · next h =>
    have hj := jacB_iff.1 h
    have ht := hj.top
    have hp := hj.prime.1
    refine ⟨by simp only [triL_length]; omega, fun r hr => ?_⟩
    simp only [triL, List.mem_map] at hr
    obtain ⟨n, _, rfl⟩ := hr
    have hl := (walkL_ok (p := p) (by omega) a b n _ (start_ok hj)).1
    rw [List.length_set, List.length_replicate] at hl
    unfold triRow
    rw [List.length_take]
    omega
  · simp
end Go.Proofs.Ytaclapojgdekpaa.Pl
