/- Paths as lists of letters: which there are, how many, their heights, and the paths that go back; no program in sight. -/
import Derived.Test.YtlodpobegdbhaaaCPathCountsMCount
namespace Go.Proofs.Ytlodpobegdbhaaa.Pl
set_option linter.unusedVariables false
set_option linter.unusedSimpArgs false
/-- all paths of n steps from i to k on 0..h, in the order of texts (D 68, L 76, U 85) -/
def PL (h k : Nat) : Nat → Nat → List (List UInt8)
  | 0, i => if i = k ∧ i ≤ h then [[]] else []
  | n + 1, i => if i ≤ h ∧ k ≤ h then ((if 0 < i then (PL h k n (i - 1)).map (68 :: ·) else []) ++ (PL h k n i).map (76 :: ·)) ++ (PL h k n (i + 1)).map (85 :: ·) else []
theorem PL_above {h k : Nat} : ∀ (n i : Nat), ¬ (i ≤ h ∧ k ≤ h) → PL h k n i = []
  | 0, i, hi => by
    simp only [PL]
    rw [if_neg (by omega)]
  | n + 1, i, hi => by
    simp only [PL]
    rw [if_neg hi]
theorem PL_count {h k : Nat} (hk : k ≤ h) : ∀ (n i : Nat), i ≤ h → ((PL h k n i).length : Int) = Tn true h n (e_ i) k
  | 0, i, hi => by
    simp only [PL, Tn, e_]
    by_cases e : i = k
    · rw [if_pos ⟨e, hi⟩, if_pos e.symm]; rfl
    · rw [if_neg (fun h => e h.1), if_neg (Ne.symm e)]; rfl
  | n + 1, i, hi => by
    rw [Tn_first true hi n k, if_pos rfl]
    simp only [PL]
    rw [if_pos ⟨hi, hk⟩]
    simp only [List.length_append, List.length_map]
    have h1 := PL_count hk n i hi
    have h0 : (((if 0 < i then (PL h k n (i - 1)).map (68 :: ·) else []) : List (List UInt8)).length : Int) = if 0 < i then Tn true h n (e_ (i - 1)) k else 0 := by
      split
      · rw [List.length_map, PL_count hk n (i - 1) (by omega)]
      · rfl
    have h2 : ((PL h k n (i + 1)).length : Int) = if i + 1 ≤ h then Tn true h n (e_ (i + 1)) k else 0 := by
      split
      · exact PL_count hk n (i + 1) (by omega)
      · rw [PL_above n (i + 1) (by omega)]; rfl
    push_cast
    omega
theorem PL_far {h k : Nat} : ∀ (n i : Nat), k + n < i ∨ i + n < k → PL h k n i = []
  | 0, i, hf => by
    simp only [PL]
    rw [if_neg (by omega)]
  | n + 1, i, hf => by
    simp only [PL]
    split
    · rw [PL_far n i (by omega), PL_far n (i + 1) (by omega)]
      split
      · rw [PL_far n (i - 1) (by omega)]; rfl
      · rfl
    · rfl
/-- the height behind a letter -/
def stepc (i : Nat) (c : UInt8) : Option Nat := if c = 85 then some (i + 1) else if c = 68 then if 0 < i then some (i - 1) else none else if c = 76 then some i else none
def fin_ : Nat → List UInt8 → Option Nat
  | i, [] => some i
  | i, c :: cs => (stepc i c).bind fun j => fin_ j cs
/-- the heights of a path -/
def hts : Nat → List UInt8 → Option (List Nat)
  | i, [] => some [i]
  | i, c :: cs => (stepc i c).bind fun j => (hts j cs).map (i :: ·)
theorem hts_fin : ∀ (x : List UInt8) (i : Nat) (l : List Nat), hts i x = some l → l.length = x.length + 1 ∧ fin_ i x = some (l.getLastD 0) ∧ l.headD 0 = i
  | [], i, l, h => by
    simp only [hts, Option.some.injEq] at h
    subst h
    simp [fin_]
  | c :: cs, i, l, h => by
    simp only [hts] at h
    obtain ⟨j, hj, h⟩ := Option.bind_eq_some_iff.1 h
    obtain ⟨m, hm, rfl⟩ := Option.map_eq_some_iff.1 h
    obtain ⟨h1, h2, h3⟩ := hts_fin cs j m hm
    refine ⟨by simp [h1], ?_, rfl⟩
    simp only [fin_, hj, Option.bind_some]
    rw [h2]
    cases m with
    | nil => simp at h1
    | cons a as => simp
theorem fin_hts : ∀ (x : List UInt8) (i e : Nat), fin_ i x = some e → ∃ l, hts i x = some l
  | [], i, e, h => ⟨[i], rfl⟩
  | c :: cs, i, e, h => by
    simp only [fin_] at h
    obtain ⟨j, hj, h⟩ := Option.bind_eq_some_iff.1 h
    obtain ⟨l, hl⟩ := fin_hts cs j e h
    exact ⟨i :: l, by simp [hts, hj, hl]⟩
theorem fin_append : ∀ (x y : List UInt8) (i : Nat), fin_ i (x ++ y) = (fin_ i x).bind fun j => fin_ j y
  | [], y, i => rfl
  | c :: cs, y, i => by
    simp only [List.cons_append, fin_]
    cases stepc i c with
    | none => rfl
    | some j => simp only [Option.bind_some]; exact fin_append cs y j
/-- the letter that goes back -/
def sw (c : UInt8) : UInt8 := if c = 85 then 68 else if c = 68 then 85 else c
theorem sw_sw (c : UInt8) : sw (sw c) = c := by
  unfold sw
  by_cases h1 : c = 85
  · subst h1; decide
  · by_cases h2 : c = 68
    · subst h2; decide
    · simp [h1, h2]
theorem stepc_sw {i j : Nat} {c : UInt8} (h : stepc i c = some j) : stepc j (sw c) = some i := by
  unfold stepc at h
  by_cases h1 : c = 85
  · subst h1
    rw [if_pos rfl] at h
    injection h with h
    subst h
    simp [stepc, sw]
  · rw [if_neg h1] at h
    by_cases h2 : c = 68
    · subst h2
      rw [if_pos rfl] at h
      by_cases h3 : 0 < i
      · rw [if_pos h3] at h
        injection h with h
        subst h
        simp [stepc, sw]; omega
      · rw [if_neg h3] at h; cases h
    · rw [if_neg h2] at h
      by_cases h3 : c = 76
      · rw [if_pos h3] at h
        injection h with h
        subst h
        subst h3
        simp [stepc, sw]
      · rw [if_neg h3] at h; cases h
def rv (x : List UInt8) : List UInt8 := (x.map sw).reverse
theorem rv_rv (x : List UInt8) : rv (rv x) = x := by
  unfold rv
  rw [List.map_reverse, List.reverse_reverse, List.map_map]
  have : sw ∘ sw = id := by funext c; exact sw_sw c
  rw [this, List.map_id]
theorem rv_length (x : List UInt8) : (rv x).length = x.length := by simp [rv]
theorem fin_rv : ∀ (x : List UInt8) (i e : Nat), fin_ i x = some e → fin_ e (rv x) = some i
  | [], i, e, h => by
    simp only [fin_, Option.some.injEq] at h
    subst h; rfl
  | c :: cs, i, e, h => by
    simp only [fin_] at h
    obtain ⟨j, hj, h⟩ := Option.bind_eq_some_iff.1 h
    have ih := fin_rv cs j e h
    have : rv (c :: cs) = rv cs ++ [sw c] := by simp [rv]
    rw [this, fin_append, ih]
    simp [fin_, stepc_sw hj]
theorem PL_fin {h k : Nat} : ∀ (n i : Nat) (x : List UInt8), x ∈ PL h k n i → x.length = n ∧ fin_ i x = some k
  | 0, i, x, hx => by
    simp only [PL] at hx
    split at hx
    · next e =>
      simp only [List.mem_singleton] at hx
      subst hx
      exact ⟨rfl, by simp [fin_, e.1]⟩
    · cases hx
  | n + 1, i, x, hx => by
    simp only [PL] at hx
    split at hx
    · next e =>
      rcases List.mem_append.1 hx with hx | hx
      · rcases List.mem_append.1 hx with hx | hx
        · split at hx
          · next h0 =>
            obtain ⟨y, hy, rfl⟩ := List.mem_map.1 hx
            obtain ⟨h1, h2⟩ := PL_fin n (i - 1) y hy
            exact ⟨by simp [h1], by simp [fin_, stepc, h0, h2]⟩
          · cases hx
        · obtain ⟨y, hy, rfl⟩ := List.mem_map.1 hx
          obtain ⟨h1, h2⟩ := PL_fin n i y hy
          exact ⟨by simp [h1], by simp [fin_, stepc, h2]⟩
      · obtain ⟨y, hy, rfl⟩ := List.mem_map.1 hx
        obtain ⟨h1, h2⟩ := PL_fin n (i + 1) y hy
        exact ⟨by simp [h1], by simp [fin_, stepc, h2]⟩
    · cases hx
end Go.Proofs.Ytlodpobegdbhaaa.Pl
